import PyProof.Rows.All
import Wide.All
import OpenK.AllK
import Wide.FinOn
import HandS.ForMost
import HandS.ForExc
import HandS.Deep
import HandS.Wide
import HandS.WideBits
import HandS.TupMul
import HandS.TupAny
import HandS.IsInst
import HandS.Style
import HandS.SortInts
import HandS.Strs
import HandS.TupLe
import KE.GoesEnum
import HandS.Iter
import HandS.Flow
import HandS.More
import HandS.Exc
import HandS.ExcOwn
import HandS.CallSlots
import KE.DataMinMax
import PyProof.Rows.CallKwBuiltin
import ObjForm.LawKit
import HandS.TryOnly
import HandS.ExcInit
import HandS.Small
import HandS.WordsExc
import KE.KStateDown
import HandS.Defaults
import HandS.Head0
import HandS.Head1
import HandS.Head2
import HandS.HeadEnd
import HandS.HeadHook1
import HandS.HeadHook2
import KE.KExcInit
import PySem.Challenge.RW_samesamples_k79_whole_sounds_by_rows
set_option Elab.async false
set_option linter.all false
set_option autoImplicit false
set_option maxRecDepth 100000
set_option maxHeartbeats 4000000
/-! UL1: values with tuples by value, their relation to the layer below, the abstract heap. -/
namespace UL
open PySem PySem.Spec L2

/-- a value: tuples (and the locked script list, rol) by content -/
inductive U where
  | non | bl (b : Bool) | int (i : Int) | str (x : Str) | tup (us : List U) | rol (us : List U) | ref (a : Addr) | ty (n : String)

/-- a list that never changes: locked, or of the module -/
def Frz (K : PySem.W.Frag) (H : Hp) (a : Addr) (xs : List V) : Prop :=
  (∃ o, H a = some (.frz o (.lst xs))) ∨
    ∃ (o : Obj) (its : Array Value) (n : Nat), K.lookup a = some o ∧ o.cls = .type "list" ∧ o.dict = none ∧ o.data = .seq its n ∧ its.size ≤ sizeLine ∧ Vals xs its.toList
theorem Frz.sq {K : PySem.W.Frag} {H : Hp} {a : Addr} {xs : List V} (h : Frz K H a xs) : SqL K H a xs := by
  rcases h with h | h
  · exact .inl (.inr h)
  · exact .inr h

mutual
inductive RU (K : PySem.W.Frag) (H : Hp) : U → V → Prop
  | non : RU K H .non .non
  | bl (b : Bool) : RU K H (.bl b) (.bl b)
  | int (i : Int) : RU K H (.int i) (.int i)
  | str (x : Str) : RU K H (.str x) (.str x)
  | tup {a : Addr} {xs : List V} {us : List U} : SqT K H a xs → RUs K H us xs → RU K H (.tup us) (.ref a)
  | rol {a : Addr} {xs : List V} {us : List U} : Frz K H a xs → RUs K H us xs → RU K H (.rol us) (.ref a)
  | ref (a : Addr) : RU K H (.ref a) (.ref a)
  | ty (n : String) : RU K H (.ty n) (.ty n)
inductive RUs (K : PySem.W.Frag) (H : Hp) : List U → List V → Prop
  | nil : RUs K H [] []
  | cons {u : U} {us : List U} {x : V} {xs : List V} : RU K H u x → RUs K H us xs → RUs K H (u :: us) (x :: xs)
end

/-- what never changes stays -/
structure Ext (H H' : Hp) : Prop where
  t : ∀ a xs, H a = some (.tup xs) → H' a = some (.tup xs)
  f : ∀ a o u, H a = some (.frz o u) → H' a = some (.frz o u)
theorem Ext.refl {H : Hp} : Ext H H := ⟨fun _ _ h => h, fun _ _ _ h => h⟩
theorem Ext.trans {H1 H2 H3 : Hp} (a : Ext H1 H2) (b : Ext H2 H3) : Ext H1 H3 := ⟨fun c xs h => b.t c xs (a.t c xs h), fun c o u h => b.f c o u (a.f c o u h)⟩
theorem Ext.new {H : Hp} {p : Addr} {o : HO} (h : H p = none) : Ext H (upd H p o) :=
  ⟨fun a xs e => by rw [upd_ne (ne_of_none e h)]; exact e, fun a o' u e => by rw [upd_ne (ne_of_none e h)]; exact e⟩
theorem Ext.wr {H : Hp} {p : Addr} {o q : HO} (h : H p = some q) (h1 : ∀ xs, q ≠ .tup xs) (h2 : ∀ o u, q ≠ .frz o u) : Ext H (upd H p o) :=
  ⟨fun a xs e => by
    have n : a ≠ p := fun z => by subst z; rw [h] at e; exact h1 xs (Option.some.inj e)
    rw [upd_ne n]; exact e,
   fun a o' u e => by
    have n : a ≠ p := fun z => by subst z; rw [h] at e; exact h2 o' u (Option.some.inj e)
    rw [upd_ne n]; exact e⟩
section
variable {K : PySem.W.Frag} {H H' : Hp}
theorem SqT.ext (e : Ext H H') {a : Addr} {xs : List V} (h : SqT K H a xs) : SqT K H' a xs := by
  rcases h with (h | ⟨o, h⟩) | h
  · exact .inl (.inl (e.t _ _ h))
  · exact .inl (.inr ⟨o, e.f _ _ _ h⟩)
  · exact .inr h
theorem Frz.ext (e : Ext H H') {a : Addr} {xs : List V} (h : Frz K H a xs) : Frz K H' a xs := by
  rcases h with ⟨o, h⟩ | h
  · exact .inl ⟨o, e.f _ _ _ h⟩
  · exact .inr h
mutual
theorem RU.ext (e : Ext H H') : ∀ {u : U} {v : V}, RU K H u v → RU K H' u v
  | _, _, .non => .non
  | _, _, .bl b => .bl b
  | _, _, .int i => .int i
  | _, _, .str x => .str x
  | _, _, .tup h r => .tup (SqT.ext e h) (RUs.ext e r)
  | _, _, .rol h r => .rol (Frz.ext e h) (RUs.ext e r)
  | _, _, .ref a => .ref a
  | _, _, .ty n => .ty n
theorem RUs.ext (e : Ext H H') : ∀ {us : List U} {vs : List V}, RUs K H us vs → RUs K H' us vs
  | _, _, .nil => .nil
  | _, _, .cons r t => .cons (RU.ext e r) (RUs.ext e t)
end
theorem RUs.length : ∀ {us : List U} {vs : List V}, RUs K H us vs → us.length = vs.length
  | _, _, .nil => rfl
  | _, _, .cons _ t => congrArg (· + 1) (RUs.length t)
theorem RUs.get : ∀ {us : List U} {vs : List V} {i : Nat} {u : U}, RUs K H us vs → us[i]? = some u → ∃ v, vs[i]? = some v ∧ RU K H u v
  | _, _, _, _, .nil, e => by simp at e
  | _, _, 0, _, .cons r _, e => by simp at e; subst e; exact ⟨_, rfl, r⟩
  | _, _, i + 1, u, .cons _ t, e => by
    obtain ⟨v, h1, h2⟩ := RUs.get (i := i) (u := u) t (by simpa using e)
    exact ⟨v, by simpa using h1, h2⟩
theorem RUs.get' : ∀ {us : List U} {vs : List V} {i : Nat} {v : V}, RUs K H us vs → vs[i]? = some v → ∃ u, us[i]? = some u ∧ RU K H u v
  | _, _, _, _, .nil, e => by simp at e
  | _, _, 0, _, .cons r _, e => by simp at e; subst e; exact ⟨_, rfl, r⟩
  | _, _, i + 1, u, .cons _ t, e => by
    obtain ⟨v, h1, h2⟩ := RUs.get' (i := i) (v := u) t (by simpa using e)
    exact ⟨v, by simpa using h1, h2⟩
theorem RUs.append : ∀ {us ws : List U} {vs xs : List V}, RUs K H us vs → RUs K H ws xs → RUs K H (us ++ ws) (vs ++ xs)
  | _, _, _, _, .nil, s => s
  | _, _, _, _, .cons r t, s => .cons r (RUs.append t s)
theorem RUs.take : ∀ {us : List U} {vs : List V} (n : Nat), RUs K H us vs → RUs K H (us.take n) (vs.take n)
  | _, _, 0, _ => by simp; exact .nil
  | _, _, _ + 1, .nil => by simp; exact .nil
  | _, _, n + 1, .cons r t => by simp; exact .cons r (RUs.take n t)
theorem RUs.drop : ∀ {us : List U} {vs : List V} (n : Nat), RUs K H us vs → RUs K H (us.drop n) (vs.drop n)
  | _, _, 0, r => r
  | _, _, _ + 1, .nil => by simp; exact .nil
  | _, _, n + 1, .cons _ t => by simp; exact RUs.drop n t
theorem RUs.set {u : U} {v : V} (r : RU K H u v) : ∀ {us : List U} {vs : List V} (i : Nat), RUs K H us vs → RUs K H (us.set i u) (vs.set i v)
  | _, _, _, .nil => .nil
  | _, _, 0, .cons _ t => .cons r t
  | _, _, i + 1, .cons q t => .cons q (RUs.set r i t)
theorem RUs.rep {u : U} {v : V} (r : RU K H u v) : ∀ n : Nat, RUs K H (List.replicate n u) (List.replicate n v)
  | 0 => .nil
  | n + 1 => .cons r (RUs.rep r n)
theorem RUs.reps {us : List U} {vs : List V} (r : RUs K H us vs) : ∀ n : Nat, RUs K H (List.replicate n us).flatten (List.replicate n vs).flatten
  | 0 => .nil
  | n + 1 => by simp only [List.replicate_succ, List.flatten_cons]; exact RUs.append r (RUs.reps r n)
theorem RUs.dropLast {us : List U} {vs : List V} (r : RUs K H us vs) : RUs K H us.dropLast vs.dropLast := by
  rw [List.dropLast_eq_take, List.dropLast_eq_take, r.length]
  exact RUs.take _ r
theorem RUs.eraseIdx : ∀ {us : List U} {vs : List V} (i : Nat), RUs K H us vs → RUs K H (us.eraseIdx i) (vs.eraseIdx i)
  | _, _, _, .nil => .nil
  | _, _, 0, .cons _ t => t
  | _, _, i + 1, .cons q t => .cons q (RUs.eraseIdx i t)
theorem RUs.reverse {us : List U} {vs : List V} (r : RUs K H us vs) : RUs K H us.reverse vs.reverse := by
  induction us generalizing vs with
  | nil => cases r; exact .nil
  | cons u us ih =>
    cases r with
    | cons r t => simp only [List.reverse_cons]; exact RUs.append (ih t) (.cons r .nil)
theorem RUs.ints : ∀ {ns : List Int} {vs : List V}, RUs K H (ns.map U.int) vs → vs = ns.map V.int
  | [], _, h => by cases h; rfl
  | n :: ns, _, h => by
    cases h with
    | cons r t => cases r; rw [RUs.ints t]; rfl
theorem RUs.of_ints : ∀ (ns : List Int), RUs K H (ns.map U.int) (ns.map V.int)
  | [] => .nil
  | n :: ns => .cons (.int n) (RUs.of_ints ns)
theorem RUs.bls : ∀ {ns : List Bool} {vs : List V}, RUs K H (ns.map U.bl) vs → vs = ns.map V.bl
  | [], _, h => by cases h; rfl
  | n :: ns, _, h => by
    cases h with
    | cons r t => cases r; rw [RUs.bls t]; rfl
theorem RUs.strs : ∀ {ns : List Str} {vs : List V}, RUs K H (ns.map U.str) vs → vs = ns.map V.str
  | [], _, h => by cases h; rfl
  | n :: ns, _, h => by
    cases h with
    | cons r t => cases r; rw [RUs.strs t]; rfl
theorem RUs.of_strs : ∀ (ns : List Str), RUs K H (ns.map U.str) (ns.map V.str)
  | [] => .nil
  | n :: ns => .cons (.str n) (RUs.of_strs ns)
end

/-! ### the abstract heap of objects that change -/
inductive UO where
  | lst (us : List U)
  | dK (kvs : List (Key × U))
  | ins (C : Addr) (fs : List (Str × U))
abbrev UH := Addr → Option UO
def up (G : UH) (a : Addr) (o : UO) : UH := fun b => if b = a then some o else G b
theorem up_same {G : UH} {a : Addr} {o : UO} : up G a o a = some o := by unfold up; rw [if_pos rfl]
theorem up_ne {G : UH} {a b : Addr} {o : UO} (h : b ≠ a) : up G a o b = G b := by unfold up; rw [if_neg h]
theorem up_up {G : UH} {a : Addr} {o u : UO} : up (up G a o) a u = up G a u := by
  funext b; unfold up; split <;> rfl
theorem up_comm {G : UH} {a b : Addr} {o u : UO} (h : a ≠ b) : up (up G a o) b u = up (up G b u) a o := by
  funext c; unfold up
  by_cases h1 : c = b
  · by_cases h2 : c = a
    · exact absurd (h2.symm.trans h1) h
    · rw [if_pos h1, if_neg h2, if_pos h1]
  · rw [if_neg h1]
    by_cases h2 : c = a
    · rw [if_pos h2, if_pos h2]
    · rw [if_neg h2, if_neg h2, if_neg h1]
theorem un_of {G : UH} {a b : Addr} {o : UO} (h : G a = some o) (h' : G b = none) : a ≠ b := by
  intro e; subst e; rw [h] at h'; cases h'
/-- G holds no more than G' -/
def Le (G G' : UH) : Prop := ∀ a o, G a = some o → G' a = some o
theorem Le.refl (G : UH) : Le G G := fun _ _ h => h
theorem Le.trans {G1 G2 G3 : UH} (a : Le G1 G2) (b : Le G2 G3) : Le G1 G3 := fun c o h => b c o (a c o h)
theorem Le.new {G : UH} {p : Addr} {o : UO} (h : G p = none) : Le G (up G p o) := fun a q e => by rw [up_ne (un_of e h)]; exact e

def RKV (K : PySem.W.Frag) (H : Hp) {κ : Type} : List (κ × U) → List (κ × V) → Prop := Paired fun p q => p.1 = q.1 ∧ RU K H p.2 q.2
def RO (K : PySem.W.Frag) (H : Hp) (a : Addr) : UO → Prop
  | .lst us => ∃ xs, H a = some (.lst xs) ∧ RUs K H us xs
  | .dK kvs => ∃ xs, H a = some (.dK xs) ∧ RKV K H kvs xs
  | .ins C fs => ∃ dx xs, H a = some (.ins C dx xs) ∧ RKV K H fs xs
def HR (K : PySem.W.Frag) (G : UH) (H : Hp) : Prop := ∀ a o, G a = some o → RO K H a o
section
variable {K : PySem.W.Frag} {H H' : Hp} {G G' : UH}
theorem RKV.ext (e : Ext H H') {κ : Type} {ks : List (κ × U)} {xs : List (κ × V)} (r : RKV K H ks xs) : RKV K H' ks xs := by
  unfold RKV at *
  induction r with
  | nil => exact .nil
  | cons h _ ih => exact .cons ⟨h.1, RU.ext e h.2⟩ ih
theorem HR.le (r : HR K G' H) (l : Le G G') : HR K G H := fun a o e => r a o (l a o e)
theorem HR.fresh (r : HR K G H) {p : Addr} (h : H p = none) : G p = none := by
  cases q : G p with
  | none => rfl
  | some o =>
    have z := r p o q
    cases o with
    | lst us => obtain ⟨xs, e, _⟩ := z; rw [h] at e; cases e
    | dK us => obtain ⟨xs, e, _⟩ := z; rw [h] at e; cases e
    | ins C fs => obtain ⟨_, xs, e, _⟩ := z; rw [h] at e; cases e
theorem RO.keep (e : Ext H H') {a : Addr} (h : H' a = H a) {o : UO} (r : RO K H a o) : RO K H' a o := by
  cases o with
  | lst us => obtain ⟨xs, e1, r⟩ := r; exact ⟨xs, h.trans e1, RUs.ext e r⟩
  | dK us => obtain ⟨xs, e1, r⟩ := r; exact ⟨xs, h.trans e1, RKV.ext e r⟩
  | ins C fs => obtain ⟨dx, xs, e1, r⟩ := r; exact ⟨dx, xs, h.trans e1, RKV.ext e r⟩
/-- an object at p is laid or changed -/
theorem HR.put (r : HR K G H) {p : Addr} {o : HO} {u : UO} (e : Ext H (upd H p o)) (n : RO K (upd H p o) p u) : HR K (up G p u) (upd H p o) := fun a q h => by
  by_cases ha : a = p
  · subst ha; rw [up_same] at h; cases h; exact n
  · rw [up_ne ha] at h; exact (r a q h).keep e (upd_ne ha)
/-- an object that G does not tell of is laid or changed -/
theorem HR.side (r : HR K G H) {p : Addr} {o : HO} (e : Ext H (upd H p o)) (n : G p = none) : HR K G (upd H p o) := fun a q h =>
  (r a q h).keep e (upd_ne (un_of h n))
theorem HR.lst (r : HR K G H) {a : Addr} {us : List U} (h : G a = some (.lst us)) : ∃ xs, H a = some (.lst xs) ∧ RUs K H us xs := r a _ h
theorem Ext.lst {a : Addr} {xs ys : List V} (h : H a = some (.lst xs)) : Ext H (upd H a (.lst ys)) := .wr h (fun _ z => by cases z) (fun _ _ z => by cases z)
theorem HR.setLst (r : HR K G H) {a : Addr} {us ws : List U} {ys : List V} (h : G a = some (.lst us)) (q : RUs K H ws ys) : Ext H (upd H a (.lst ys)) ∧ HR K (up G a (.lst ws)) (upd H a (.lst ys)) := by
  obtain ⟨xs, e, _⟩ := r.lst h
  have x : Ext H (upd H a (.lst ys)) := .lst e
  exact ⟨x, r.put x ⟨ys, upd_same, RUs.ext x q⟩⟩
theorem HR.newLst (r : HR K G H) {p : Addr} {ws : List U} {ys : List V} (h : H p = none) (q : RUs K H ws ys) : Ext H (upd H p (.lst ys)) ∧ HR K (up G p (.lst ws)) (upd H p (.lst ys)) := by
  have x : Ext H (upd H p (.lst ys)) := .new h
  exact ⟨x, r.put x ⟨ys, upd_same, RUs.ext x q⟩⟩
theorem HR.newTup (r : HR K G H) {p : Addr} {ws : List U} {ys : List V} (h : H p = none) (q : RUs K H ws ys) : Ext H (upd H p (.tup ys)) ∧ HR K G (upd H p (.tup ys)) ∧ RU K (upd H p (.tup ys)) (.tup ws) (.ref p) := by
  have x : Ext H (upd H p (.tup ys)) := .new h
  exact ⟨x, r.side x (r.fresh h), .tup (SqT.of upd_same) (RUs.ext x q)⟩
end

/-! ### slots -/
abbrev USt := List (Option U)
structure SR (K : PySem.W.Frag) (H : Hp) (s : USt) (σ : L2.St) : Prop where
  len : s.length = σ.length
  at_ : ∀ (i : Nat) (u : U), s[i]? = some (some u) → ∃ v, σ[i]? = some (some v) ∧ RU K H u v
section
variable {K : PySem.W.Frag} {H H' : Hp} {s : USt} {σ : L2.St}
theorem SR.ext (r : SR K H s σ) (e : Ext H H') : SR K H' s σ := ⟨r.len, fun i u h => let ⟨v, h1, h2⟩ := r.at_ i u h; ⟨v, h1, RU.ext e h2⟩⟩
theorem SR.set (r : SR K H s σ) {i : Nat} {u : U} {v : V} (q : RU K H u v) : SR K H (s.set i (some u)) (σ.set i (some v)) := by
  refine ⟨by simp [r.len], fun j w h => ?_⟩
  by_cases hj : i = j
  · subst hj
    by_cases hi : i < s.length
    · rw [List.getElem?_set_self hi] at h
      cases h
      exact ⟨v, by rw [List.getElem?_set_self (by rw [← r.len]; exact hi)], q⟩
    · rw [List.getElem?_eq_none (by simpa using hi)] at h; cases h
  · rw [List.getElem?_set_ne hj] at h
    obtain ⟨x, h1, h2⟩ := r.at_ j w h
    exact ⟨x, by rw [List.getElem?_set_ne hj]; exact h1, h2⟩
theorem SR.unset (r : SR K H s σ) (i : Nat) (o : Option V) : SR K H (s.set i none) (σ.set i o) := by
  refine ⟨by simp [r.len], fun j w h => ?_⟩
  by_cases hj : i = j
  · subst hj
    by_cases hi : i < s.length
    · rw [List.getElem?_set_self hi] at h; cases h
    · rw [List.getElem?_eq_none (by simpa using hi)] at h; cases h
  · rw [List.getElem?_set_ne hj] at h
    obtain ⟨x, h1, h2⟩ := r.at_ j w h
    exact ⟨x, by rw [List.getElem?_set_ne hj]; exact h1, h2⟩
end
end UL
set_option Elab.async false
set_option linter.all false
set_option autoImplicit false
set_option maxRecDepth 100000
set_option maxHeartbeats 4000000
/-! UL0: a tuple times one, times nothing; a slice of a tuple with a step. -/
namespace UL
open PySem PySem.Spec PyProof.Rows L2
/-- nothing of it: a new empty tuple -/
theorem tuple_mul0 (l : Addr) (items : Array Value) (n : Nat) (dd : Option Addr) (sl : Array (Option Value)) (x : Int) (u : Tok) (c0 : (decide (x < -(2 ^ 63)) || decide (x ≥ 2 ^ 63)) = false) (c1 : (items.isEmpty || x == 1) = false) (c2 : (decide (x ≤ 0) || items.isEmpty) = true) :
    Meets (Builtin.«tuple.__mul__» ⟨[.ref l, .int x u], []⟩) (fun _ R s => s.heap.get? l = some { cls := .type "tuple", dict := dd, data := .seq items n, slots := sl } ∧
      R (.ok (.ret (Value.ref s.heap.objs.size))) { s with heap := s.heap.push { cls := Value.type "tuple", data := Data.seq #[] }, toks := s.toks }) :=
  .of_wp fun prog w A R s h => by
    obtain ⟨hp, g, d, tk, os⟩ := s
    obtain ⟨hl, h⟩ := h
    have f1 := AutoSeq1.idx_int
    wp_walk using wpAny_loadPart' hl
    repeat (first
      | (refine wpAny_ite_false (decide_eq_false (by rw [c0]; exact Bool.false_ne_true)) ?_; wp_walk using wpAny_loadPart' hl)
      | (refine wpAny_ite_false (decide_eq_false (by rw [c1]; exact Bool.false_ne_true)) ?_; wp_walk using wpAny_loadPart' hl)
      | (refine wpAny_ite_true (decide_eq_true c2) ?_; wp_walk using wpAny_loadPart' hl))
    exact ⟨_, rfl, h⟩
/-- once: itself -/
theorem tuple_mul1 (l : Addr) (items : Array Value) (n : Nat) (dd : Option Addr) (sl : Array (Option Value)) (u : Tok) :
    Meets (Builtin.«tuple.__mul__» ⟨[.ref l, .int 1 u], []⟩) (fun _ R s => s.heap.get? l = some { cls := .type "tuple", dict := dd, data := .seq items n, slots := sl } ∧ R (.ok (.ret (Value.ref l))) s) :=
  .of_wp fun prog w A R s h => by
    obtain ⟨hp, g, d, tk, os⟩ := s
    obtain ⟨hl, h⟩ := h
    have f1 := AutoSeq1.idx_int
    have c0 : (decide ((1 : Int) < -(2 ^ 63)) || decide ((1 : Int) ≥ 2 ^ 63)) = false := by decide
    have c1 : (items.isEmpty || (1 : Int) == 1) = true := by simp
    wp_walk using wpAny_loadPart' hl
    repeat (first
      | (refine wpAny_ite_false (decide_eq_false (by rw [c0]; exact Bool.false_ne_true)) ?_; wp_walk using wpAny_loadPart' hl)
      | (refine wpAny_ite_true (decide_eq_true c1) ?_; wp_walk using wpAny_loadPart' hl))
    exact ⟨_, rfl, h⟩
section
variable {X : Cx}
def rRep01 (K : PySem.W.Frag) : R2 := fun x y H Q => ∃ l k xs, x = .ref l ∧ y = .int k ∧ SqT K H l xs ∧ xs ≠ [] ∧ ((k = 0 ∧ ∀ p, H p = none → Q (.ref p) (upd H p (.tup []))) ∨ (k = 1 ∧ Q (.ref l) H))
theorem op_rep01 : OpR X (binaryOp .Mult) (rRep01 X.K) := by
  intro pins s σ H x y v u Q I rx ry h
  obtain ⟨l, k, xs, rfl, rfl, hT, hne, q⟩ := h
  cases rx
  obtain ⟨t, rfl⟩ := ry
  obtain ⟨its, r, ⟨⟨cls, dd, data, sl⟩, ho, hc, n, hd⟩, hs⟩ := I.tuple hT
  simp only at hc hd
  subst hc hd
  have hle : its.length = xs.length := r.length.symm
  have hn : its ≠ [] := fun e => hne (by
    rw [e] at hle
    exact List.eq_nil_of_length_eq_zero hle.symm)
  have hi : its.toArray.isEmpty = false := by
    cases its with
    | nil => exact absurd rfl hn
    | cons a b => rfl
  rcases q with ⟨rfl, q⟩ | ⟨rfl, q⟩
  · refine wpAny_binaryOp_repeat_ref (T := "tuple") (U := "int") (by decide) ⟨_, ho, rfl⟩ (fun s' => typeIs_int s' 0 t) noFill_tuple_mul F.fills_int_mul F.slot_int_rmul repeat_tuple F.slot_int_index.lookup
      (call_meets F.slot_int_rmul (typeIs_int s 0 t) F.entry_int_rmul (F.args_int_rmul_2 _ _) (int_rmul_tuple 0 t l its.toArray n dd sl)
        ⟨ho, rfl, ⟨_, ho, rfl⟩, call_meets F.slot_tuple_mul ⟨_, ho, rfl⟩ F.entry_tuple_mul (F.args_tuple_mul_2 _ _) (tuple_mul0 l its.toArray n dd sl 0 t (by decide) (by rw [hi]; rfl) rfl) ⟨ho, ?_⟩⟩)
    exact ⟨.ref s.heap.objs.size, _, I.laid (t' := s.toks) (o := .tup []) (fun b ob q => Heap.get?_push_of_some _ q) (Nat.le_refl _) ⟨Nat.zero_le _, _, .nil, IsTup.new _ _⟩, rfl, q _ (I.hok.fresh (Nat.le_refl _))⟩
  · refine wpAny_binaryOp_repeat_ref (T := "tuple") (U := "int") (by decide) ⟨_, ho, rfl⟩ (fun s' => typeIs_int s' 1 t) noFill_tuple_mul F.fills_int_mul F.slot_int_rmul repeat_tuple F.slot_int_index.lookup
      (call_meets F.slot_int_rmul (typeIs_int s 1 t) F.entry_int_rmul (F.args_int_rmul_2 _ _) (int_rmul_tuple 1 t l its.toArray n dd sl)
        ⟨ho, rfl, ⟨_, ho, rfl⟩, call_meets F.slot_tuple_mul ⟨_, ho, rfl⟩ F.entry_tuple_mul (F.args_tuple_mul_2 _ _) (tuple_mul1 l its.toArray n dd sl t) ⟨ho, ?_⟩⟩)
    exact ⟨.ref l, H, I, rfl, q⟩
/-! ### [::c] -/
def stpLo (c : Int) (n : Nat) : Int := if c < 0 then (n : Int) - 1 else 0
def stpN (c : Int) (n : Nat) : Nat := (if c > 0 then (if (0 : Int) < n then ((n : Int) - 0 - 1) / c + 1 else 0) else (if (n : Int) - 1 > -1 then ((n : Int) - 1 - -1 - 1) / (-c) + 1 else 0)).toNat
def stp {α : Type} (xs : List α) (c : Int) : List α := (List.range (stpN c xs.length)).filterMap fun (m : Nat) => xs[(stpLo c xs.length + (m : Int) * c).toNat]?
section
variable {prog : Program} {w : World} {A : Around} {E : Value → Shared → Prop} {s : Shared}
theorem sliceApplied_step {sl : Addr} {vc : Value} {c : Int} {n : Nat} {Q : Int × Int × Nat → Shared → Prop} (hs : s.heap.IsSliceOf sl .none .none vc) (pc : IsPart vc (some c)) (hc : c ≠ 0)
    (h : Q (stpLo c n, c, stpN c n) s) : wpAny (model prog w) A (Builtin.Slice.sliceApplied (.ref sl) (pure (n : Int))) Q E s := by
  obtain ⟨os, hos, hcs, hds⟩ := id hs
  unfold Builtin.Slice.sliceApplied Builtin.Slice.sliceFields
  refine wpAny_bind (wpAny_bind (wpAny_field hos hds (x := .none) rfl (wpAny_bind (wpAny_field hos hds (x := .none) rfl (wpAny_bind (wpAny_field hos hds (x := vc) rfl (wpAny_pure ?_)))))))
  refine wpAny_bind (HT.slicePart_ pc ?_)
  show wpAny _ _ (if (c == 0) = true then _ else _) _ _ s
  rw [if_neg (by simpa using hc)]
  refine wpAny_bind (slicePart_none (wpAny_bind (slicePart_none (wpAny_bind (wpAny_pure ?_)))))
  show wpAny _ _ (match Builtin.Slice.sliceAdjust none none c (n : Int) with | (lo, hi) => pure (lo, c, Builtin.Slice.slicePlaces lo hi c)) _ _ s
  have e : Builtin.Slice.sliceAdjust none none c (n : Int) = (stpLo c n, if c < 0 then -1 else (n : Int)) := by
    unfold Builtin.Slice.sliceAdjust stpLo
    by_cases h0 : c < 0
    · simp only [h0, if_true]
    · simp only [h0, if_false]
  rw [e]
  refine wpAny_pure ?_
  have e2 : Builtin.Slice.slicePlaces (stpLo c n) (if c < 0 then -1 else (n : Int)) c = stpN c n := by
    unfold Builtin.Slice.slicePlaces stpLo stpN
    by_cases h0 : c < 0
    · have h1 : ¬ c > 0 := by omega
      simp only [h0, h1, if_true, if_false]
    · have h1 : c > 0 := by omega
      simp only [h0, h1, if_true, if_false]
  show Q (stpLo c n, c, Builtin.Slice.slicePlaces (stpLo c n) (if c < 0 then -1 else (n : Int)) c) s
  rw [e2]
  exact h
theorem pick_all {α : Type} : ∀ (xs : List α), (List.range xs.length).filterMap (fun m => xs[m]?) = xs
  | [] => rfl
  | x :: t => by
    rw [List.length_cons, List.range_succ_eq_map, List.filterMap_cons, List.filterMap_map]
    have e : ((fun m => (x :: t)[m]?) ∘ Nat.succ) = fun m => t[m]? := by
      funext m
      simp
    rw [e, pick_all t]
    simp
theorem stp_one {α : Type} (xs : List α) : stp xs 1 = xs := by
  have e : stpN 1 xs.length = xs.length := by
    unfold stpN
    simp only [show (1 : Int) > 0 by decide, if_true]
    split
    · have : ((xs.length : Int) - 0 - 1) / 1 = (xs.length : Int) - 1 := by rw [Int.ediv_one]; omega
      omega
    · omega
  unfold stp
  rw [e]
  unfold stpLo
  have e2 : (fun (m : Nat) => xs[((if (1 : Int) < 0 then (xs.length : Int) - 1 else 0) + (m : Int) * 1).toNat]?) = fun m => xs[m]? := by
    funext m
    have : ((if (1 : Int) < 0 then (xs.length : Int) - 1 else 0) + (m : Int) * 1).toNat = m := by
      rw [if_neg (by decide)]; omega
    rw [this]
  rw [e2]
  exact pick_all xs
theorem stp_len {α : Type} (xs : List α) (c : Int) (hc : c ≠ 0) : (stp xs c).length ≤ xs.length := by
  refine Nat.le_trans (List.length_filterMap_le _ _) ?_
  rw [List.length_range]
  unfold stpN
  split
  · split
    · have := Int.ediv_le_self (b := c) (by omega : 0 ≤ (xs.length : Int) - 0 - 1)
      omega
    · omega
  · split
    · have := Int.ediv_le_self (b := -c) (by omega : 0 ≤ (xs.length : Int) - 1 - -1 - 1)
      omega
    · omega
section
variable {prog : Program} {w : World} {A : Around} {E : Value → Shared → Prop} {s : Shared}
theorem getItem_tuple_step {t sl : Addr} {items : Array Value} {vc : Value} {c : Int} {Q : Value → Shared → Prop} (ht : IsTup s.heap t items) (hs : s.heap.IsSliceOf sl .none .none vc) (pc : IsPart vc (some c)) (hc : c ≠ 0)
    (h1 : c = 1 → Q (.ref t) s)
    (h : c ≠ 1 → Q (.ref s.heap.objs.size) { s with heap := s.heap.push { cls := .type "tuple", data := .seq (stp items.toList c).toArray } })
    (hsz : items.size ≤ sizeLine) : wpAny (model prog w) A (getItem (.ref t) (.ref sl)) Q E s := by
  have htake : sizeOk (.seq (stp items.toList c).toArray) := by
    show (stp items.toList c).toArray.size ≤ sizeLine
    rw [List.size_toArray]
    have := stp_len items.toList c hc
    rw [Array.length_toList] at this
    exact Nat.le_trans this hsz
  obtain ⟨os, hos, hcs, hds⟩ := id hs
  have hTs : s.TypeIs (.ref sl) "slice" := ⟨os, hos, hcs⟩
  unfold getItem
  try with_reducible refine wpAny_holding ?_
  first | refine wpAny_bind (wpAny_pure ?_) | skip
  refine wpAny_bind (wpAny_sequenceKey ht.typeIs (by decide) ?_)
  refine wpAny_bind (wpAny_callSpecial?_slot (name := Str.ofString "__getitem__") ht.typeIs PyProof.Rows.slot_tuple_getitem
    (wpAny_call_entry PyProof.Rows.slot_tuple_getitem ht.typeIs entry_tuple_getitem ?_ (args_tuple_getitem _ _)))
  show wpAny _ _ (Builtin.Tuple.tupleItemsOf (.ref t) >>= _) _ _ s
  refine wpAny_bind (tupleItemsOf_ ht ?_)
  refine wpAny_bind (wpAny_typeOf hTs ?_)
  rw [if_pos (by decide)]
  refine wpAny_bind (sliceApplied_step hs pc hc ?_)
  show wpAny _ _ (if (stpLo c items.size == 0 && c == 1 && stpN c items.size == items.size) = true then _ else _) _ _ s
  by_cases e1 : c = 1
  · subst e1
    have hyes : (stpLo 1 items.size == 0 && (1 : Int) == 1 && stpN 1 items.size == items.size) = true := by
      have a1 : stpLo 1 items.size = 0 := rfl
      have a2 : stpN 1 items.size = items.size := by
        unfold stpN
        simp only [show (1 : Int) > 0 by decide, if_true]
        split
        · have : ((items.size : Int) - 0 - 1) / 1 = (items.size : Int) - 1 := by rw [Int.ediv_one]; omega
          omega
        · omega
      rw [a1, a2]; simp
    rw [if_pos hyes]
    refine wpAny_bind ?_
    show wpAny _ _ (typeOf (.ref t) >>= fun T => pure (T == .type "tuple")) _ _ s
    refine wpAny_bind (wpAny_typeOf ht.typeIs (wpAny_pure ?_))
    first
      | rw [if_pos (by decide)]
      | simp only [beq_self_eq_true, if_true]
    first
      | exact wpAny_bind (wpAny_rule (wpAny_pure ⟨_, rfl, wpAny_pure (h1 rfl)⟩))
      | exact wpAny_bind (wpAny_rule (wpAny_bind (wpAny_pure (wpAny_pure ⟨_, rfl, wpAny_pure (h1 rfl)⟩))))
  · have hno : ¬ ((stpLo c items.size == 0 && c == 1 && stpN c items.size == items.size) = true) := by
      intro q
      rw [Bool.and_eq_true, Bool.and_eq_true] at q
      exact e1 (eq_of_beq q.1.2)
    rw [if_neg hno]
    have e : ((List.range (stpN c items.size)).filterMap fun (k : Nat) => items[(stpLo c items.size + (k : Int) * c).toNat]?).toArray = (stp items.toList c).toArray := by
      unfold stp
      rw [Array.length_toList]
      congr 2
      funext k
      rw [Array.getElem?_toList]
    rw [e]
    first
      | exact wpAny_bind (m := Builtin.Tuple.tupleExact _) (wpAny_newObj_type (wpAny_pure ⟨_, rfl, wpAny_pure (h e1)⟩) htake)
      | exact wpAny_bind (m := Builtin.Tuple.tupleExact _) (wpAny_newObj_type (wpAny_bind (wpAny_pure (wpAny_pure ⟨_, rfl, wpAny_pure (h e1)⟩))) htake)
      | exact wpAny_bind (wpAny_bind (m := Builtin.Tuple.tupleExact _) (wpAny_newObj_type (wpAny_pure (wpAny_pure ⟨_, rfl, wpAny_pure (h e1)⟩)) htake))
      | exact wpAny_bind (wpAny_bind (m := Builtin.Tuple.tupleExact _) (wpAny_newObj_type (wpAny_pure ⟨_, rfl, wpAny_pure (h e1)⟩) htake))
end
theorem stp_vals {xs : List V} {us : List Value} (r : Vals xs us) (c : Int) : Vals (stp xs c) (stp us c) := by
  unfold stp
  rw [r.length]
  generalize stpN c us.length = n
  have : ∀ (l : List Nat), Vals (l.filterMap fun (m : Nat) => xs[(stpLo c us.length + (m : Int) * c).toNat]?) (l.filterMap fun (m : Nat) => us[(stpLo c us.length + (m : Int) * c).toNat]?) := by
    intro l
    induction l with
    | nil => exact .nil
    | cons m l ih =>
      simp only [List.filterMap_cons]
      generalize (stpLo c us.length + (m : Int) * c).toNat = j
      cases e : xs[j]? with
      | none =>
        have : us[j]? = none := by
          rw [List.getElem?_eq_none_iff] at e ⊢
          rw [← r.length]; exact e
        rw [this]; exact ih
      | some x =>
        obtain ⟨u, hu, ru⟩ := r.get e
        rw [hu]
        exact .cons ru ih
  exact this _
/-- t[::c] by values -/
def rStp (K : PySem.W.Frag) : V → V → Hp → VK → Prop := fun x y H Q => ∃ a c xs, x = .ref a ∧ y = .int c ∧ c ≠ 0 ∧ SqT K H a xs ∧ (c = 1 → Q (.ref a) H) ∧ (c ≠ 1 → ∀ p, H p = none → Q (.ref p) (upd H p (.tup (stp xs c))))
def tStp (K : PySem.W.Frag) (te tc : TE) : TE := fun σ H Q => te σ H fun x H1 => tc σ H1 fun y H2 => rStp K x y H2 Q
theorem pe_step {e c : Expr} {te tc : TE} {pos p2 : Pos} (he : PE X e te) (hc : PE X c tc) : PE X (.Subscript e (.Slice none none (some c) p2) pos) (tStp X.K te tc) := by
  refine ⟨fun pins s σ H Q I h => ?_⟩
  refine Subscript_ (thn (he.run pins s σ H _ I h) fun v s1 ⟨x, H1, I1, r1, q1⟩ => ?_)
  refine wpAny_Slice ?_
  rw [evalPart_none]
  refine wpAny_pure ?_
  refine wpAny_pure ?_
  rw [evalPart_some]
  refine thn (hc.run pins s1 σ H1 _ I1 q1) fun vc s3 ⟨y, H3, I3, r3, q3⟩ => ?_
  obtain ⟨a, cc, xs, rfl, rfl, hc0, hx, q1, q2⟩ := q3
  cases r1
  obtain ⟨tkk, rfl⟩ := r3
  have I4 : Inv X pins σ H3 { s3 with heap := s3.heap.push { cls := .type "slice", data := .fields #[.none, .none, .int cc tkk] } } := I3.kept (t' := s3.toks) fun b ob q => Heap.get?_push_of_some _ q
  obtain ⟨its, r, ht, hz⟩ := I4.tuple hx
  show wpAny (model X.prog X.w) X.A (subscriptTail e (.Slice none none (some c) p2) (.ref a) (.ref s3.heap.objs.size)) (EP X pins σ Q) X.xe { s3 with heap := s3.heap.push { cls := .type "slice", data := .fields #[.none, .none, .int cc tkk] } }
  refine tail_any (ops := [.ref a, .ref s3.heap.objs.size]) ht.typeIs PyProof.Rows.slot_tuple_getitem.lookup ?_ (by with_unfolding_all rfl)
  refine getItem_tuple_step ht (Heap.IsSliceOf.new ..) (.int cc tkk) hc0 (fun e1 => ⟨.ref a, H3, I4, rfl, q1 e1⟩) (fun e1 => ?_) (by rw [List.size_toArray, ← r.length]; exact hz)
  refine ⟨.ref _, _, I4.laid (t' := s3.toks) (o := .tup (stp xs cc)) (fun b ob q => Heap.get?_push_of_some _ q) (Nat.le_refl _) ?_, rfl, q2 e1 _ (I4.hok.fresh (Nat.le_refl _))⟩
  refine ⟨?_, _, stp_vals r cc, IsTup.new _ _⟩
  have := stp_len xs cc hc0
  have hl := r.length
  omega
end
end
end UL
set_option Elab.async false
set_option linter.all false
set_option autoImplicit false
set_option maxRecDepth 100000
set_option maxHeartbeats 4000000
/-! UL2: readings over the abstract heap; operators by values. -/
namespace UL
open PySem PySem.Spec L2

abbrev UK := U → UH → Prop
abbrev UT := USt → UH → UK → Prop
abbrev UTT := USt → UH → (Bool → UH → Prop) → Prop
abbrev UTA := USt → UH → (List U → UH → Prop) → Prop
def cE (K : PySem.W.Frag) (t : UT) : TE := fun σ H Q => ∃ s G Q0, SR K H s σ ∧ HR K G H ∧ t s G Q0 ∧ ∀ u G' v H', Q0 u G' → RU K H' u v → HR K G' H' → Ext H H' → Q v H'
def cT (K : PySem.W.Frag) (t : UTT) : TT := fun σ H Q => ∃ s G Q0, SR K H s σ ∧ HR K G H ∧ t s G Q0 ∧ ∀ b G' H', Q0 b G' → HR K G' H' → Ext H H' → Q b H'
def cA (K : PySem.W.Frag) (t : UTA) : TA := fun σ H Q => ∃ s G Q0, SR K H s σ ∧ HR K G H ∧ t s G Q0 ∧ ∀ us G' vs H', Q0 us G' → RUs K H' us vs → HR K G' H' → Ext H H' → Q vs H'
abbrev UOp := U → U → UH → UK → Prop
abbrev UFn := List U → UH → UK → Prop
def c2 (K : PySem.W.Frag) (r : UOp) : R2 := fun x y H Q => ∃ u w G Q0, RU K H u x ∧ RU K H w y ∧ HR K G H ∧ r u w G Q0 ∧ ∀ z G' v H', Q0 z G' → RU K H' z v → HR K G' H' → Ext H H' → Q v H'
def cF (K : PySem.W.Frag) (r : UFn) : List V → Hp → VK → Prop := fun xs H Q => ∃ us G Q0, RUs K H us xs ∧ HR K G H ∧ r us G Q0 ∧ ∀ z G' v H', Q0 z G' → RU K H' z v → HR K G' H' → Ext H H' → Q v H'
def cM (K : PySem.W.Frag) (r : U → UFn) : V → List V → Hp → VK → Prop := fun x xs H Q => ∃ u us G Q0, RU K H u x ∧ RUs K H us xs ∧ HR K G H ∧ r u us G Q0 ∧ ∀ z G' v H', Q0 z G' → RU K H' z v → HR K G' H' → Ext H H' → Q v H'

section
variable {X : Cx}
theorem PE.weak {e : Expr} {t t' : TE} (h : PE X e t) (w : ∀ σ H Q, t' σ H Q → t σ H Q) : PE X e t' := ⟨fun pins s σ H Q I q => h.run pins s σ H Q I (w σ H Q q)⟩
theorem PT.weak {e : Expr} {t t' : TT} (h : PT X e t) (w : ∀ σ H Q, t' σ H Q → t σ H Q) : PT X e t' := ⟨fun pins s σ H Q I q => h.run pins s σ H Q I (w σ H Q q)⟩
theorem PA.weak {e : List Expr} {t t' : TA} (h : PA X e t) (w : ∀ σ H Q, t' σ H Q → t σ H Q) : PA X e t' := ⟨fun pos pins s σ H Q I q => h.run pos pins s σ H Q I (w σ H Q q)⟩
theorem PS.weak {e : Stmt} {t t' : TS} (h : PS X e t) (w : ∀ D σ H, t' D σ H → t D σ H) : PS X e t' := ⟨fun pins s σ H D I q => h.run pins s σ H D I (w D σ H q)⟩
theorem PSs.weak {e : List Stmt} {t t' : TS} (h : PSs X e t) (w : ∀ D σ H, t' D σ H → t D σ H) : PSs X e t' := ⟨fun pins s σ H D I q => h.run pins s σ H D I (w D σ H q)⟩

/-! ### expressions put together -/
def uBin (r : UOp) (ta tb : UT) : UT := fun s G Q => ta s G fun x G1 => tb s G1 fun y G2 => r x y G2 Q
theorem cOp {K : PySem.W.Frag} {r : UOp} {ta tb : UT} {σ : L2.St} {H : Hp} {Q : VK} (h : cE K (uBin r ta tb) σ H Q) : tOp (c2 K r) (cE K ta) (cE K tb) σ H Q := by
  obtain ⟨s, G, Q0, hs, hg, h, k⟩ := h
  refine ⟨s, G, _, hs, hg, h, fun x G1 v H1 h1 r1 g1 e1 => ⟨s, G1, _, hs.ext e1, g1, h1, fun y G2 v2 H2 h2 r2 g2 e2 => ?_⟩⟩
  exact ⟨x, y, G2, Q0, RU.ext e2 r1, r2, g2, h2, fun z G3 v3 H3 h3 r3 g3 e3 => k z G3 v3 H3 h3 r3 g3 ((e1.trans e2).trans e3)⟩
def uUn (r : U → UH → UK → Prop) (ta : UT) : UT := fun s G Q => ta s G fun x G1 => r x G1 Q
def c1 (K : PySem.W.Frag) (r : U → UH → UK → Prop) : V → Hp → VK → Prop := fun x H Q => ∃ u G Q0, RU K H u x ∧ HR K G H ∧ r u G Q0 ∧ ∀ z G' v H', Q0 z G' → RU K H' z v → HR K G' H' → Ext H H' → Q v H'
theorem cUn {K : PySem.W.Frag} {r : U → UH → UK → Prop} {ta : UT} {σ : L2.St} {H : Hp} {Q : VK} (h : cE K (uUn r ta) σ H Q) : tUn (c1 K r) (cE K ta) σ H Q := by
  obtain ⟨s, G, Q0, hs, hg, h, k⟩ := h
  refine ⟨s, G, _, hs, hg, h, fun x G1 v H1 h1 r1 g1 e1 => ?_⟩
  exact ⟨x, G1, Q0, r1, g1, h1, fun z G3 v3 H3 h3 r3 g3 e3 => k z G3 v3 H3 h3 r3 g3 (e1.trans e3)⟩
/-- a value without more ado -/
def uC (u : U) : UT := fun _ G Q => Q u G
theorem cC {K : PySem.W.Frag} {u : U} {v : V} (r : ∀ H, RU K H u v) {σ : L2.St} {H : Hp} {Q : VK} (h : cE K (uC u) σ H Q) : tC v σ H Q := by
  obtain ⟨s, G, Q0, hs, hg, h, k⟩ := h
  exact k u G v H h (r H) hg .refl
def getS : USt → Nat → Option U
  | [], _ => none
  | o :: _, 0 => o
  | _ :: s, i + 1 => getS s i
def setS : USt → Nat → Option U → USt
  | [], _, _ => []
  | _ :: s, 0, v => v :: s
  | o :: s, i + 1, v => o :: setS s i v
theorem getS_some : ∀ {s : USt} {i : Nat} {u : U}, getS s i = some u → s[i]? = some (some u)
  | [], _, _, h => by cases h
  | o :: _, 0, u, h => by simp [getS] at h; simp [h]
  | _ :: s, i + 1, u, h => by simp [getS] at h; simpa using getS_some h
theorem setS_eq : ∀ (s : USt) (i : Nat) (v : Option U), setS s i v = s.set i v
  | [], _, _ => rfl
  | _ :: _, 0, _ => rfl
  | o :: s, i + 1, v => by simp [setS, setS_eq s i v]
def uVar (i : Nat) : UT := fun s G Q => match getS s i with
  | some u => Q u G
  | none => False
theorem cVar {K : PySem.W.Frag} {i : Nat} {σ : L2.St} {H : Hp} {Q : VK} (h : cE K (uVar i) σ H Q) : tVar i σ H Q := by
  obtain ⟨s, G, Q0, hs, hg, h, k⟩ := h
  unfold uVar at h
  cases e : getS s i with
  | none => rw [e] at h; exact h.elim
  | some u =>
    rw [e] at h
    obtain ⟨v, e1, r⟩ := hs.at_ i u (getS_some e)
    exact ⟨v, e1, k u G v H h r hg .refl⟩

/-! ### numbers, texts, tuples, lists -/
def MulOk (i j : Int) : Prop := CMul i j ∨ CMulX i j
def DivOk (i j : Int) : Prop := CDiv i j ∨ CDivW i j
def uAdd : UOp := fun x y G Q => match x, y with
  | .int i, .int j => Q (.int (i + j)) G
  | .str a, .str b => a.length + b.length ≤ sizeLine ∧ Q (.str (a ++ b)) G
  | .tup a, .tup b => a.length + b.length ≤ sizeLine ∧ Q (.tup (a ++ b)) G
  | .ref a, .ref b => (match G a, G b with
    | some (.lst xs), some (.lst ys) => xs.length + ys.length ≤ sizeLine ∧ ∀ p, G p = none → Q (.ref p) (up G p (.lst (xs ++ ys)))
    | _, _ => False)
  | _, _ => False
def uSub : UOp := fun x y G Q => match x, y with
  | .int i, .int j => Q (.int (i - j)) G
  | _, _ => False
def uMul : UOp := fun x y G Q => match x, y with
  | .int i, .int j => MulOk i j ∧ Q (.int (i * j)) G
  | .ref a, .int k => (match G a with
    | some (.lst xs) => -(2 ^ 63) ≤ k ∧ k < 2 ^ 63 ∧ xs.length * k.toNat ≤ sizeLine ∧ ∀ p, G p = none → Q (.ref p) (up G p (.lst (List.replicate k.toNat xs).flatten))
    | _ => False)
  | .tup xs, .int k => xs ≠ [] ∧ 0 ≤ k ∧ k ≤ 1000 ∧ xs.length ≤ 1000 ∧ Q (.tup (List.replicate k.toNat xs).flatten) G
  | _, _ => False
def uDiv : UOp := fun x y G Q => match x, y with
  | .int i, .int j => DivOk i j ∧ Q (.int (i / j)) G
  | _, _ => False
def uMod : UOp := fun x y G Q => match x, y with
  | .int i, .int j => 0 < j ∧ Q (.int (i % j)) G
  | _, _ => False
def uPow : UOp := fun x y G Q => match x, y with
  | .int i, .int j => CPow i j ∧ Q (.int (i ^ j.toNat)) G
  | _, _ => False
theorem RU.tup_inv {K : PySem.W.Frag} {H : Hp} {us : List U} {v : V} (h : RU K H (.tup us) v) : ∃ a xs, v = .ref a ∧ SqT K H a xs ∧ RUs K H us xs := by
  cases h with
  | tup h r => exact ⟨_, _, rfl, h, r⟩
theorem RU.rol_inv {K : PySem.W.Frag} {H : Hp} {us : List U} {v : V} (h : RU K H (.rol us) v) : ∃ a xs, v = .ref a ∧ Frz K H a xs ∧ RUs K H us xs := by
  cases h with
  | rol h r => exact ⟨_, _, rfl, h, r⟩
theorem op_uAdd : OpR X (binaryOp .Add) (c2 X.K uAdd) := by
  intro pins s σ H x y v u Q I rx ry h
  obtain ⟨a, b, G, Q0, ra, rb, hg, h, k⟩ := h
  unfold uAdd at h
  split at h
  · cases ra; cases rb
    exact op_add pins s σ H _ _ v u Q I rx ry ⟨_, _, rfl, rfl, k _ G _ H h (.int _) hg .refl⟩
  · cases ra; cases rb
    exact op_add_str pins s σ H _ _ v u Q I rx ry ⟨_, _, rfl, rfl, h.1, k _ G _ H h.2 (.str _) hg .refl⟩
  · obtain ⟨p, xs, rfl, h1, r1⟩ := ra.tup_inv
    obtain ⟨q, ys, rfl, h2, r2⟩ := rb.tup_inv
    refine op_catA pins s σ H _ _ v u Q I rx ry ⟨p, q, xs, ys, rfl, rfl, h1, h2, by rw [← r1.length, ← r2.length]; exact h.1, fun e => ?_, fun _ e => ?_, fun _ _ l hl => ?_⟩
    · subst e; cases r1
      exact k _ G _ H h.2 (.tup h2 (by simpa using r2)) hg .refl
    · subst e; cases r2
      exact k _ G _ H h.2 (.tup h1 (by simpa using r1)) hg .refl
    · obtain ⟨e, g, r⟩ := hg.newTup hl (r1.append r2)
      exact k _ G _ _ h.2 r g e
  · rename_i a b
    cases ra; cases rb
    split at h
    · rename_i us ws e1 e2
      obtain ⟨xs, h1, r1⟩ := hg.lst e1
      obtain ⟨ys, h2, r2⟩ := hg.lst e2
      refine op_cat pins s σ H _ _ v u Q I rx ry ⟨a, b, xs, ys, rfl, rfl, h1, h2, by rw [← r1.length, ← r2.length]; exact h.1, fun p hp => ?_⟩
      obtain ⟨e, g⟩ := hg.newLst hp (r1.append r2)
      exact k _ _ _ _ (h.2 p (hg.fresh hp)) (.ref p) g e
    · exact h.elim
  · exact h.elim
theorem op_uSub : OpR X (binaryOp .Sub) (c2 X.K uSub) := by
  intro pins s σ H x y v u Q I rx ry h
  obtain ⟨a, b, G, Q0, ra, rb, hg, h, k⟩ := h
  unfold uSub at h
  split at h
  · cases ra; cases rb
    exact op_sub pins s σ H _ _ v u Q I rx ry ⟨_, _, rfl, rfl, k _ G _ H h (.int _) hg .refl⟩
  · exact h.elim
theorem op_uMul : OpR X (binaryOp .Mult) (c2 X.K uMul) := by
  intro pins s σ H x y v u Q I rx ry h
  obtain ⟨a, b, G, Q0, ra, rb, hg, h, k⟩ := h
  unfold uMul at h
  split at h
  · cases ra; cases rb
    have q := k _ G _ H h.2 (.int _) hg .refl
    rcases h.1 with m | m
    · exact op_mul pins s σ H _ _ v u Q I rx ry ⟨_, _, rfl, rfl, m, q⟩
    · exact op_mulX pins s σ H _ _ v u Q I rx ry ⟨_, _, rfl, rfl, m, q⟩
  · rename_i a kk
    cases ra; cases rb
    split at h
    · rename_i us e1
      obtain ⟨xs, h1, r1⟩ := hg.lst e1
      obtain ⟨b1, b2, b3, h⟩ := h
      refine op_rep pins s σ H _ _ v u Q I rx ry ⟨a, kk, xs, rfl, rfl, h1, b1, b2, by rw [← r1.length]; exact b3, fun p hp => ?_⟩
      obtain ⟨e, g⟩ := hg.newLst hp (RUs.reps r1 kk.toNat)
      exact k _ _ _ _ (h p (hg.fresh hp)) (.ref p) g e
    · exact h.elim
  · rename_i us kk
    obtain ⟨p, xs, rfl, h1, r1⟩ := ra.tup_inv
    cases rb
    obtain ⟨n0, b1, b2, b3, h⟩ := h
    have nx : xs ≠ [] := fun z => n0 (by subst z; cases r1; rfl)
    by_cases k2 : 2 ≤ kk
    · refine op_repT pins s σ H _ _ v u Q I rx ry ⟨p, kk, xs, rfl, rfl, h1, nx, k2, b2, by rw [← r1.length]; exact b3, fun l hl => ?_⟩
      obtain ⟨e, g, r⟩ := hg.newTup hl (RUs.reps r1 kk.toNat)
      exact k _ G _ _ h r g e
    · by_cases k1 : kk = 1
      · subst k1
        refine op_rep01 pins s σ H _ _ v u Q I rx ry ⟨p, 1, xs, rfl, rfl, h1, nx, .inr ⟨rfl, ?_⟩⟩
        exact k _ G _ H h (by
          have e : (List.replicate (1 : Int).toNat us).flatten = us := by
            show (List.replicate 1 us).flatten = us
            simp
          rw [e]; exact ra) hg .refl
      · have k0 : kk = 0 := by omega
        subst k0
        refine op_rep01 pins s σ H _ _ v u Q I rx ry ⟨p, 0, xs, rfl, rfl, h1, nx, .inl ⟨rfl, fun l hl => ?_⟩⟩
        obtain ⟨e, g, r⟩ := hg.newTup hl (ws := []) (ys := []) .nil
        exact k _ G _ _ h r g e
  · exact h.elim
theorem op_uDiv : OpR X (binaryOp .FloorDiv) (c2 X.K uDiv) := by
  intro pins s σ H x y v u Q I rx ry h
  obtain ⟨a, b, G, Q0, ra, rb, hg, h, k⟩ := h
  unfold uDiv at h
  split at h
  · cases ra; cases rb
    have q := k _ G _ H h.2 (.int _) hg .refl
    rcases h.1 with m | m
    · exact op_fdiv pins s σ H _ _ v u Q I rx ry ⟨_, _, rfl, rfl, m, q⟩
    · exact op_fdivW pins s σ H _ _ v u Q I rx ry ⟨_, _, rfl, rfl, m, q⟩
  · exact h.elim
theorem op_uMod : OpR X (binaryOp .Mod) (c2 X.K uMod) := by
  intro pins s σ H x y v u Q I rx ry h
  obtain ⟨a, b, G, Q0, ra, rb, hg, h, k⟩ := h
  unfold uMod at h
  split at h
  · cases ra; cases rb
    exact op_mod pins s σ H _ _ v u Q I rx ry ⟨_, _, rfl, rfl, h.1, k _ G _ H h.2 (.int _) hg .refl⟩
  · exact h.elim
theorem op_uPow : OpR X (binaryOp .Pow) (c2 X.K uPow) := by
  intro pins s σ H x y v u Q I rx ry h
  obtain ⟨a, b, G, Q0, ra, rb, hg, h, k⟩ := h
  unfold uPow at h
  split at h
  · cases ra; cases rb
    exact op_pow pins s σ H _ _ v u Q I rx ry ⟨_, _, rfl, rfl, h.1, k _ G _ H h.2 (.int _) hg .refl⟩
  · exact h.elim
def uNeg : U → UH → UK → Prop := fun x G Q => match x with
  | .int i => Q (.int (-i)) G
  | _ => False
theorem un_uNeg : UnR X (unaryOp .USub) (c1 X.K uNeg) := by
  intro pins s σ H x v Q I rx h
  obtain ⟨a, G, Q0, ra, hg, h, k⟩ := h
  unfold uNeg at h
  split at h
  · cases ra
    exact un_neg pins s σ H _ v Q I rx ⟨_, rfl, k _ G _ H h (.int _) hg .refl⟩
  · exact h.elim
def uOp : Operator → UOp
  | .Add => uAdd
  | .Sub => uSub
  | .Mult => uMul
  | .FloorDiv => uDiv
  | .Mod => uMod
  | .Pow => uPow
  | _ => fun _ _ _ _ => False
theorem op_any (op : Operator) : OpR X (binaryOp op) (c2 X.K (uOp op)) := by
  cases op with
  | Add => exact op_uAdd
  | Sub => exact op_uSub
  | Mult => exact op_uMul
  | FloorDiv => exact op_uDiv
  | Mod => exact op_uMod
  | Pow => exact op_uPow
  | _ =>
    intro pins s σ H x y v u Q I rx ry h
    obtain ⟨a, b, G, Q0, ra, rb, hg, h, k⟩ := h
    exact h.elim

/-! ### comparisons -/
mutual
def toD : U → Option PyData
  | .non => some .none
  | .bl b => some (.bool b)
  | .int i => some (.int i)
  | .str x => some (.str x)
  | .tup us => (toDs us).map .tuple
  | .rol us => (toDs us).map .list
  | .ref _ => none
  | .ty _ => none
def toDs : List U → Option (List PyData)
  | [] => some []
  | u :: us => (toD u).bind fun d => (toDs us).map fun ds => d :: ds
end
mutual
theorem dp_of {K : PySem.W.Frag} {H : Hp} : ∀ {u : U} {v : V} {d : PyData}, RU K H u v → toD u = some d → Dp K H v d
  | .non, _, _, .non, h => by simp [toD] at h; subst h; exact .non
  | .bl b, _, _, .bl _, h => by simp [toD] at h; subst h; exact .bl b
  | .int i, _, _, .int _, h => by simp [toD] at h; subst h; exact .int i
  | .str x, _, _, .str _, h => by simp [toD] at h; subst h; exact .str x
  | .tup us, _, _, .tup hq r, h => by
    simp only [toD, Option.map_eq_some_iff] at h
    obtain ⟨ds, h1, h2⟩ := h
    subst h2
    exact .tup hq (dps_of r h1)
  | .rol us, _, _, .rol hq r, h => by
    simp only [toD, Option.map_eq_some_iff] at h
    obtain ⟨ds, h1, h2⟩ := h
    subst h2
    exact .lst hq.sq (dps_of r h1)
  | .ref _, _, _, .ref _, h => by simp [toD] at h
  | .ty _, _, _, .ty _, h => by simp [toD] at h
theorem dps_of {K : PySem.W.Frag} {H : Hp} : ∀ {us : List U} {vs : List V} {ds : List PyData}, RUs K H us vs → toDs us = some ds → DpAll K H vs ds
  | [], _, _, .nil, h => by simp [toDs] at h; subst h; exact .nil
  | u :: us, _, _, .cons r t, h => by
    simp only [toDs, Option.bind_eq_some_iff, Option.map_eq_some_iff] at h
    obtain ⟨d, h1, ds, h2, h3⟩ := h
    subst h3
    exact .cons (dp_of r h1) (dps_of t h2)
end
/-- what is compared: a list at its place, its items by value -/
def dOf (G : UH) : U → Option PyData
  | .ref a => (match G a with
    | some (.lst us) => (toDs us).map .list
    | _ => none)
  | u => toD u
theorem dp_ofG {K : PySem.W.Frag} {H : Hp} {G : UH} (hg : HR K G H) {u : U} {v : V} {d : PyData} (r : RU K H u v) (h : dOf G u = some d) : Dp K H v d := by
  cases r with
  | ref a =>
    unfold dOf at h
    simp only at h
    split at h
    · rename_i us e
      obtain ⟨xs, h1, r1⟩ := hg.lst e
      simp only [Option.map_eq_some_iff] at h
      obtain ⟨ds, h2, h3⟩ := h
      subst h3
      exact .lst (SqL.of h1) (dps_of r1 h2)
    · cases h
  | non => exact dp_of .non h
  | bl b => exact dp_of (.bl b) h
  | int i => exact dp_of (.int i) h
  | str x => exact dp_of (.str x) h
  | tup hq r => exact dp_of (.tup hq r) h
  | rol hq r => exact dp_of (.rol hq r) h
  | ty n => exact dp_of (.ty n) h
def uEqF (neg : Bool) : UOp := fun x y G Q => match x, y with
  | .int i, .int j => Q (.bl (neg ^^ decide (i = j))) G
  | .str a, .str b => Q (.bl (neg ^^ decide (a = b))) G
  | .bl a, .bl b => Q (.bl (neg ^^ decide (a = b))) G
  | .non, .non => Q (.bl (neg ^^ true)) G
  | x, y => (match dOf G x, dOf G y with
    | some d, some e => SeqAt.shaped d = true ∧ SeqAt.shaped e = true ∧ Q (.bl (neg ^^ PyData.eqv d e)) G
    | _, _ => False)
theorem op_uEq (hu : X.A.units + 64 < cLine) : OpR X (compareOp .Eq) (c2 X.K (uEqF false)) := by
  intro pins s σ H x y v u Q I rx ry h
  obtain ⟨a, b, G, Q0, ra, rb, hg, h, k⟩ := h
  unfold uEqF at h
  split at h
  · cases ra; cases rb
    exact op_eq pins s σ H _ _ v u Q I rx ry ⟨rfl, by have q := k _ G _ H h (.bl _) hg .refl; simpa using q⟩
  · cases ra; cases rb
    exact op_eq pins s σ H _ _ v u Q I rx ry ⟨rfl, by have q := k _ G _ H h (.bl _) hg .refl; simpa using q⟩
  · cases ra; cases rb
    exact op_eq pins s σ H _ _ v u Q I rx ry ⟨rfl, by have q := k _ G _ H h (.bl _) hg .refl; simpa using q⟩
  · cases ra; cases rb
    exact op_eqD hu pins s σ H _ _ v u Q I rx ry ⟨.none, .none, .non, .non, by decide, by decide, by have q := k _ G _ H h (.bl _) hg .refl; simpa [PyData.eqv] using q⟩
  · split at h
    · rename_i d e h1 h2
      exact op_eqD hu pins s σ H _ _ v u Q I rx ry ⟨d, e, dp_ofG hg ra h1, dp_ofG hg rb h2, h.1, h.2.1, by have q := k _ G _ H h.2.2 (.bl _) hg .refl; simpa using q⟩
    · exact h.elim
theorem op_uNe (hu : X.A.units + 64 < cLine) : OpR X (compareOp .NotEq) (c2 X.K (uEqF true)) := by
  intro pins s σ H x y v u Q I rx ry h
  obtain ⟨a, b, G, Q0, ra, rb, hg, h, k⟩ := h
  unfold uEqF at h
  split at h
  · cases ra; cases rb
    exact op_ne pins s σ H _ _ v u Q I rx ry ⟨rfl, by have q := k _ G _ H h (.bl _) hg .refl; simpa using q⟩
  · cases ra; cases rb
    exact op_ne pins s σ H _ _ v u Q I rx ry ⟨rfl, by have q := k _ G _ H h (.bl _) hg .refl; simpa using q⟩
  · cases ra; cases rb
    exact op_ne pins s σ H _ _ v u Q I rx ry ⟨rfl, by have q := k _ G _ H h (.bl _) hg .refl; simpa using q⟩
  · cases ra; cases rb
    exact op_neD hu pins s σ H _ _ v u Q I rx ry ⟨.none, .none, .non, .non, by decide, by decide, by have q := k _ G _ H h (.bl _) hg .refl; simpa [PyData.eqv] using q⟩
  · split at h
    · rename_i d e h1 h2
      exact op_neD hu pins s σ H _ _ v u Q I rx ry ⟨d, e, dp_ofG hg ra h1, dp_ofG hg rb h2, h.1, h.2.1, by have q := k _ G _ H h.2.2 (.bl _) hg .refl; simpa using q⟩
    · exact h.elim
end
/-! ### [::c] -/
def uStp : UOp := fun x y G Q => match x, y with
  | .tup us, .int c => c ≠ 0 ∧ Q (.tup (stp us c)) G
  | _, _ => False
theorem RUs.stp {K : PySem.W.Frag} {H : Hp} {us : List U} {vs : List V} (r : RUs K H us vs) (c : Int) : RUs K H (stp us c) (stp vs c) := by
  unfold UL.stp
  rw [r.length]
  generalize stpN c vs.length = n
  have : ∀ (l : List Nat), RUs K H (l.filterMap fun (m : Nat) => us[(stpLo c vs.length + (m : Int) * c).toNat]?) (l.filterMap fun (m : Nat) => vs[(stpLo c vs.length + (m : Int) * c).toNat]?) := by
    intro l
    induction l with
    | nil => exact .nil
    | cons m l ih =>
      simp only [List.filterMap_cons]
      generalize (stpLo c vs.length + (m : Int) * c).toNat = j
      cases e : us[j]? with
      | none =>
        have : vs[j]? = none := by
          rw [List.getElem?_eq_none_iff] at e ⊢
          rw [← r.length]; exact e
        rw [this]; exact ih
      | some x =>
        obtain ⟨u, hu, ru⟩ := r.get e
        rw [hu]
        exact .cons ru ih
  exact this _
theorem cStp {K : PySem.W.Frag} {ta tb : UT} {σ : L2.St} {H : Hp} {Q : VK} (h : cE K (uBin uStp ta tb) σ H Q) : tStp K (cE K ta) (cE K tb) σ H Q := by
  obtain ⟨s, G, Q0, hs, hg, h, k⟩ := h
  refine ⟨s, G, _, hs, hg, h, fun x G1 v H1 h1 r1 g1 e1 => ⟨s, G1, _, hs.ext e1, g1, h1, fun y G2 v2 H2 h2 r2 g2 e2 => ?_⟩⟩
  have rx := RU.ext e2 r1
  unfold uStp at h2
  split at h2
  · obtain ⟨p, xs, rfl, hx, r3⟩ := rx.tup_inv
    cases r2
    refine ⟨p, _, xs, rfl, rfl, h2.1, hx, fun e => ?_, fun _ l hl => ?_⟩
    · subst e
      refine k _ G2 _ H2 h2.2 ?_ g2 (e1.trans e2)
      rw [stp_one]; exact rx
    · obtain ⟨e, g, r⟩ := g2.newTup hl (r3.stp _)
      exact k _ G2 _ _ h2.2 r g ((e1.trans e2).trans e)
  · exact h2.elim
end UL
set_option Elab.async false
set_option linter.all false
set_option autoImplicit false
set_option maxRecDepth 100000
set_option maxHeartbeats 4000000
/-! UL3: further operators, built-in functions, subscripts, methods by values. -/
namespace UL
open PySem PySem.Spec L2
section
variable {X : Cx}
/-! ### order -/
def uLt : UOp := fun x y G Q => match x, y with
  | .int i, .int j => Q (.bl (decide (i < j))) G
  | .str i, .str j => Q (.bl (decide (i.cps.toList < j.cps.toList))) G
  | _, _ => False
def uLe : UOp := fun x y G Q => match x, y with
  | .int i, .int j => Q (.bl (decide (i ≤ j))) G
  | .str i, .str j => Q (.bl (!decide (j.cps.toList < i.cps.toList))) G
  | _, _ => False
def uGt : UOp := fun x y G Q => match x, y with
  | .int i, .int j => Q (.bl (decide (j < i))) G
  | .str i, .str j => Q (.bl (decide (j.cps.toList < i.cps.toList))) G
  | _, _ => False
def uGe : UOp := fun x y G Q => match x, y with
  | .int i, .int j => Q (.bl (decide (j ≤ i))) G
  | .str i, .str j => Q (.bl (!decide (i.cps.toList < j.cps.toList))) G
  | _, _ => False
theorem op_uLt : OpR X (compareOp .Lt) (c2 X.K uLt) := by
  intro pins s σ H x y v u Q I rx ry h
  obtain ⟨a, b, G, Q0, ra, rb, hg, h, k⟩ := h
  unfold uLt at h
  split at h
  · cases ra; cases rb
    exact op_lt pins s σ H _ _ v u Q I rx ry ⟨_, _, rfl, rfl, k _ G _ H h (.bl _) hg .refl⟩
  · cases ra; cases rb
    exact op_lt_str pins s σ H _ _ v u Q I rx ry ⟨_, _, rfl, rfl, k _ G _ H h (.bl _) hg .refl⟩
  · exact h.elim
theorem op_uLe : OpR X (compareOp .LtE) (c2 X.K uLe) := by
  intro pins s σ H x y v u Q I rx ry h
  obtain ⟨a, b, G, Q0, ra, rb, hg, h, k⟩ := h
  unfold uLe at h
  split at h
  · cases ra; cases rb
    exact op_le pins s σ H _ _ v u Q I rx ry ⟨_, _, rfl, rfl, k _ G _ H h (.bl _) hg .refl⟩
  · cases ra; cases rb
    exact op_le_str pins s σ H _ _ v u Q I rx ry ⟨_, _, rfl, rfl, k _ G _ H h (.bl _) hg .refl⟩
  · exact h.elim
theorem op_uGt : OpR X (compareOp .Gt) (c2 X.K uGt) := by
  intro pins s σ H x y v u Q I rx ry h
  obtain ⟨a, b, G, Q0, ra, rb, hg, h, k⟩ := h
  unfold uGt at h
  split at h
  · cases ra; cases rb
    exact op_gt pins s σ H _ _ v u Q I rx ry ⟨_, _, rfl, rfl, k _ G _ H h (.bl _) hg .refl⟩
  · cases ra; cases rb
    exact op_gt_str pins s σ H _ _ v u Q I rx ry ⟨_, _, rfl, rfl, k _ G _ H h (.bl _) hg .refl⟩
  · exact h.elim
theorem op_uGe : OpR X (compareOp .GtE) (c2 X.K uGe) := by
  intro pins s σ H x y v u Q I rx ry h
  obtain ⟨a, b, G, Q0, ra, rb, hg, h, k⟩ := h
  unfold uGe at h
  split at h
  · cases ra; cases rb
    exact op_ge pins s σ H _ _ v u Q I rx ry ⟨_, _, rfl, rfl, k _ G _ H h (.bl _) hg .refl⟩
  · cases ra; cases rb
    exact op_ge_str pins s σ H _ _ v u Q I rx ry ⟨_, _, rfl, rfl, k _ G _ H h (.bl _) hg .refl⟩
  · exact h.elim

/-! ### in -/
def flatU : U → Bool
  | .non => true
  | .bl _ => true
  | .int _ => true
  | .str _ => true
  | _ => false
def eqU : U → U → Bool
  | .non, .non => true
  | .bl a, .bl b => a == b
  | .bl a, .int b => (if a then 1 else 0) == b
  | .int a, .bl b => a == (if b then 1 else 0)
  | .int a, .int b => a == b
  | .str a, .str b => a == b
  | _, _ => false
def inU (x : U) (xs : List U) : Bool := xs.any fun y => eqU y x
theorem flat_of {K : PySem.W.Frag} {H : Hp} {u : U} {v : V} (r : RU K H u v) (h : flatU u = true) : flatV v = true := by
  cases r <;> first | rfl | cases h
theorem flats_of {K : PySem.W.Frag} {H : Hp} : ∀ {us : List U} {vs : List V}, RUs K H us vs → us.all flatU = true → vs.all flatV = true
  | _, _, .nil, _ => rfl
  | _, _, .cons r t, h => by
    simp only [List.all_cons, Bool.and_eq_true] at h ⊢
    exact ⟨flat_of r h.1, flats_of t h.2⟩
theorem eqU_of' {K : PySem.W.Frag} {H : Hp} {u w : U} {v x : V} (r : RU K H u v) (q : RU K H w x) (h1 : flatU u = true) (h2 : flatU w = true) : eqV v x = eqU u w := by
  cases r <;> first
    | (cases q <;> first | rfl | cases h2)
    | cases h1
theorem inU_of {K : PySem.W.Frag} {H : Hp} {w : U} {x : V} (q : RU K H w x) (h2 : flatU w = true) : ∀ {us : List U} {vs : List V}, RUs K H us vs → us.all flatU = true → inV x vs = inU w us
  | _, _, .nil, _ => rfl
  | _, _, .cons r t, h => by
    simp only [List.all_cons, Bool.and_eq_true] at h
    have ih := inU_of q h2 t h.2
    unfold inV inU at *
    simp only [List.any_cons]
    rw [eqU_of' r q h.1 h2, ih]
def keyOf : U → Option Key
  | .int i => some (.inl i)
  | .str x => some (.inr x)
  | _ => none
theorem key_rel {K : PySem.W.Frag} {H : Hp} {u : U} {v : V} {k : Key} (r : RU K H u v) (h : keyOf u = some k) : v = kV k := by
  cases r <;> first
    | (simp [keyOf] at h; subst h; rfl)
    | (simp [keyOf] at h)
def lookK (kvs : List (Key × U)) (k : Key) : Option U := (kvs.find? fun kv => decide (kv.1 = k)).map (·.2)
theorem lookK_rel {K : PySem.W.Frag} {H : Hp} {kvs : List (Key × U)} {xs : List (Key × V)} (r : RKV K H kvs xs) (k : Key) :
    (lookK kvs k = none ∧ valV xs k = none) ∨ ∃ u v, lookK kvs k = some u ∧ valV xs k = some v ∧ RU K H u v := by
  unfold RKV at r
  induction r with
  | nil => exact .inl ⟨rfl, rfl⟩
  | @cons p q ps qs h _ ih =>
    by_cases e : p.1 = k
    · refine .inr ⟨p.2, q.2, ?_, ?_, h.2⟩
      · simp [lookK, List.find?_cons, e]
      · simp [valV, List.find?_cons, ← h.1, e]
    · rcases ih with ⟨h1, h2⟩ | ⟨u, v, h1, h2, h3⟩
      · refine .inl ⟨?_, ?_⟩
        · simpa [lookK, List.find?_cons, e] using h1
        · simpa [valV, List.find?_cons, ← h.1, e] using h2
      · refine .inr ⟨u, v, ?_, ?_, h3⟩
        · simpa [lookK, List.find?_cons, e] using h1
        · simpa [valV, List.find?_cons, ← h.1, e] using h2
def uInF (neg : Bool) : UOp := fun x y G Q => match y with
  | .tup us => flatU x = true ∧ us.all flatU = true ∧ Q (.bl (neg ^^ inU x us)) G
  | .rol us => flatU x = true ∧ us.all flatU = true ∧ Q (.bl (neg ^^ inU x us)) G
  | .ref a => (match G a with
    | some (.lst us) => flatU x = true ∧ us.all flatU = true ∧ Q (.bl (neg ^^ inU x us)) G
    | some (.dK kvs) => (match keyOf x with
      | some k => Q (.bl (neg ^^ (lookK kvs k).isSome)) G
      | none => False)
    | _ => False)
  | .str z => (match x with
    | .str w => w.length = 1 ∧ Q (.bl (neg ^^ decide (w.cps.getD 0 0 ∈ z.cps.toList))) G
    | _ => False)
  | _ => False
theorem str1 {w : Str} (h : w.length = 1) : w = ⟨#[w.cps.getD 0 0]⟩ := by
  obtain ⟨c⟩ := w
  have h' : c.size = 1 := h
  obtain ⟨l⟩ := c
  match l, h' with
  | [x], _ => rfl
theorem op_uIn (hu : X.A.units + 1 < cLine) : OpR X (compareOp .In) (c2 X.K (uInF false)) := by
  intro pins s σ H x y v u Q I rx ry h
  obtain ⟨a, b, G, Q0, ra, rb, hg, h, k⟩ := h
  unfold uInF at h
  simp only [Bool.false_bne] at h
  split at h
  · obtain ⟨p, xs, rfl, h1, r1⟩ := rb.tup_inv
    exact op_in_seq pins s σ H _ _ v u Q I rx ry ⟨p, xs, rfl, .inr h1, flat_of ra h.1, flats_of r1 h.2.1, by simpa [inU_of ra h.1 r1 h.2.1] using k _ G _ H h.2.2 (.bl _) hg .refl⟩
  · obtain ⟨p, xs, rfl, h1, r1⟩ := rb.rol_inv
    exact op_in_seq pins s σ H _ _ v u Q I rx ry ⟨p, xs, rfl, .inl h1.sq, flat_of ra h.1, flats_of r1 h.2.1, by simpa [inU_of ra h.1 r1 h.2.1] using k _ G _ H h.2.2 (.bl _) hg .refl⟩
  · rename_i p
    cases rb
    split at h
    · rename_i us e
      obtain ⟨xs, h1, r1⟩ := hg.lst e
      exact op_in_seq pins s σ H _ _ v u Q I rx ry ⟨p, xs, rfl, .inl (SqL.of h1), flat_of ra h.1, flats_of r1 h.2.1, by simpa [inU_of ra h.1 r1 h.2.1] using k _ G _ H h.2.2 (.bl _) hg .refl⟩
    · rename_i kvs e
      split at h
      · rename_i key ek
        obtain ⟨xs, h1, r1⟩ := hg p _ e
        have hk := key_rel ra ek
        subst hk
        cases (show u = Value.ref p from ry)
        refine d_in hu I (DGet.k (k := key) h1) rx fun s' I' => ⟨.bl (valV xs key).isSome, H, I', rfl, ?_⟩
        rcases lookK_rel r1 key with ⟨e1, e2⟩ | ⟨uu, vv, e1, e2, _⟩
        · rw [e1] at h; rw [e2]; exact k _ G _ H h (.bl _) hg .refl
        · rw [e1] at h; rw [e2]; exact k _ G _ H h (.bl _) hg .refl
      · exact h.elim
    · exact h.elim
  · rename_i z
    cases rb
    split at h
    · rename_i w
      cases ra
      exact op_in_sign pins s σ H _ _ v u Q I rx ry ⟨_, _, congrArg V.str (str1 h.1), rfl, by simpa using k _ G _ H h.2 (.bl _) hg .refl⟩
    · exact h.elim
  · exact h.elim
theorem op_uNotIn (hu : X.A.units + 1 < cLine) : OpR X (compareOp .NotIn) (c2 X.K (uInF true)) := by
  intro pins s σ H x y v u Q I rx ry h
  obtain ⟨a, b, G, Q0, ra, rb, hg, h, k⟩ := h
  unfold uInF at h
  simp only [Bool.true_bne] at h
  split at h
  · obtain ⟨p, xs, rfl, h1, r1⟩ := rb.tup_inv
    exact op_notIn_seq pins s σ H _ _ v u Q I rx ry ⟨p, xs, rfl, .inr h1, flat_of ra h.1, flats_of r1 h.2.1, by simpa [inU_of ra h.1 r1 h.2.1] using k _ G _ H h.2.2 (.bl _) hg .refl⟩
  · obtain ⟨p, xs, rfl, h1, r1⟩ := rb.rol_inv
    exact op_notIn_seq pins s σ H _ _ v u Q I rx ry ⟨p, xs, rfl, .inl h1.sq, flat_of ra h.1, flats_of r1 h.2.1, by simpa [inU_of ra h.1 r1 h.2.1] using k _ G _ H h.2.2 (.bl _) hg .refl⟩
  · rename_i p
    cases rb
    split at h
    · rename_i us e
      obtain ⟨xs, h1, r1⟩ := hg.lst e
      exact op_notIn_seq pins s σ H _ _ v u Q I rx ry ⟨p, xs, rfl, .inl (SqL.of h1), flat_of ra h.1, flats_of r1 h.2.1, by simpa [inU_of ra h.1 r1 h.2.1] using k _ G _ H h.2.2 (.bl _) hg .refl⟩
    · rename_i kvs e
      split at h
      · rename_i key ek
        obtain ⟨xs, h1, r1⟩ := hg p _ e
        have hk := key_rel ra ek
        subst hk
        cases (show u = Value.ref p from ry)
        refine d_notIn hu I (DGet.k (k := key) h1) rx fun s' I' => ⟨.bl (!(valV xs key).isSome), H, I', rfl, ?_⟩
        rcases lookK_rel r1 key with ⟨e1, e2⟩ | ⟨uu, vv, e1, e2, _⟩
        · rw [e1] at h; rw [e2]; exact k _ G _ H h (.bl _) hg .refl
        · rw [e1] at h; rw [e2]; exact k _ G _ H h (.bl _) hg .refl
      · exact h.elim
    · exact h.elim
  · rename_i z
    cases rb
    split at h
    · rename_i w
      cases ra
      exact op_notIn_sign pins s σ H _ _ v u Q I rx ry ⟨_, _, congrArg V.str (str1 h.1), rfl, by simpa using k _ G _ H h.2 (.bl _) hg .refl⟩
    · exact h.elim
  · exact h.elim

/-! ### is -/
def isNonU : U → Bool
  | .non => true
  | _ => false
theorem isNon_of {K : PySem.W.Frag} {H : Hp} {u : U} {v : V} (r : RU K H u v) : decide (v = V.non) = isNonU u := by
  cases r <;> first | rfl | exact decide_eq_false (by intro z; cases z)
def uIsF (neg : Bool) : UOp := fun x y G Q => match y with
  | .non => Q (.bl (neg ^^ isNonU x)) G
  | .bl b => (match x with
    | .bl a => Q (.bl (neg ^^ decide (a = b))) G
    | .int _ => Q (.bl neg) G
    | .non => Q (.bl neg) G
    | .str _ => Q (.bl neg) G
    | _ => False)
  | _ => False
theorem is_bool_other {M : Model} {A : Around} {E : Value → Shared → Prop} {s : Shared} {b : Bool} {v : Value} {Q : Value → Shared → Prop} {x : V} (r : RelV x v) (n : ∀ a, x ≠ .bl a) (f : flatV x = true) (h : Q (.bool false) s) : wpAny M A (compareOp .Is v (.bool b)) Q E s := by
  cases x with
  | non => cases r; exact wpAny_is_other rfl (fun z => nomatch z) h
  | bl a => exact absurd rfl (n a)
  | int i => obtain ⟨t, rfl⟩ := r; exact wpAny_is_other rfl (fun z => nomatch z) h
  | str i => obtain ⟨t, rfl⟩ := r; exact wpAny_is_other rfl (fun z => nomatch z) h
  | _ => cases f
theorem isnot_bool_other {M : Model} {A : Around} {E : Value → Shared → Prop} {s : Shared} {b : Bool} {v : Value} {Q : Value → Shared → Prop} {x : V} (r : RelV x v) (n : ∀ a, x ≠ .bl a) (f : flatV x = true) (h : Q (.bool true) s) : wpAny M A (compareOp .IsNot v (.bool b)) Q E s := by
  cases x with
  | non => cases r; exact wpAny_isNot_other rfl (fun z => nomatch z) h
  | bl a => exact absurd rfl (n a)
  | int i => obtain ⟨t, rfl⟩ := r; exact wpAny_isNot_other rfl (fun z => nomatch z) h
  | str i => obtain ⟨t, rfl⟩ := r; exact wpAny_isNot_other rfl (fun z => nomatch z) h
  | _ => cases f
theorem op_uIs : OpR X (compareOp .Is) (c2 X.K (uIsF false)) := by
  intro pins s σ H x y v u Q I rx ry h
  obtain ⟨a, b, G, Q0, ra, rb, hg, h, k⟩ := h
  unfold uIsF at h
  simp only [Bool.false_bne] at h
  split at h
  · cases rb
    exact op_isN pins s σ H _ _ v u Q I rx ry ⟨rfl, by rw [isNon_of ra]; exact k _ G _ H h (.bl _) hg .refl⟩
  · cases rb
    cases (show u = Value.bool _ from ry)
    split at h
    · cases ra
      exact op_isBl pins s σ H _ (.bl _) v _ Q I rx rfl ⟨_, _, rfl, rfl, k _ G _ H h (.bl _) hg .refl⟩
    · cases ra
      exact is_bool_other rx (by intro a z; cases z) rfl ⟨.bl false, H, I, rfl, k _ G _ H h (.bl _) hg .refl⟩
    · cases ra
      exact is_bool_other rx (by intro a z; cases z) rfl ⟨.bl false, H, I, rfl, k _ G _ H h (.bl _) hg .refl⟩
    · cases ra
      exact is_bool_other rx (by intro a z; cases z) rfl ⟨.bl false, H, I, rfl, k _ G _ H h (.bl _) hg .refl⟩
    · exact h.elim
  · exact h.elim
theorem op_uIsNot : OpR X (compareOp .IsNot) (c2 X.K (uIsF true)) := by
  intro pins s σ H x y v u Q I rx ry h
  obtain ⟨a, b, G, Q0, ra, rb, hg, h, k⟩ := h
  unfold uIsF at h
  simp only [Bool.true_bne] at h
  split at h
  · cases rb
    exact op_notN pins s σ H _ _ v u Q I rx ry ⟨rfl, by rw [isNon_of ra]; exact k _ G _ H h (.bl _) hg .refl⟩
  · cases rb
    cases (show u = Value.bool _ from ry)
    split at h
    · cases ra
      exact op_notBl pins s σ H _ (.bl _) v _ Q I rx rfl ⟨_, _, rfl, rfl, k _ G _ H h (.bl _) hg .refl⟩
    · cases ra
      exact isnot_bool_other rx (by intro a z; cases z) rfl ⟨.bl true, H, I, rfl, k _ G _ H h (.bl _) hg .refl⟩
    · cases ra
      exact isnot_bool_other rx (by intro a z; cases z) rfl ⟨.bl true, H, I, rfl, k _ G _ H h (.bl _) hg .refl⟩
    · cases ra
      exact isnot_bool_other rx (by intro a z; cases z) rfl ⟨.bl true, H, I, rfl, k _ G _ H h (.bl _) hg .refl⟩
    · exact h.elim
  · exact h.elim
def uCmp : CmpOp → UOp
  | .Eq => uEqF false
  | .NotEq => uEqF true
  | .Lt => uLt
  | .LtE => uLe
  | .Gt => uGt
  | .GtE => uGe
  | .In => uInF false
  | .NotIn => uInF true
  | .Is => uIsF false
  | .IsNot => uIsF true
theorem cmp_any (hu : X.A.units + 64 < cLine) (op : CmpOp) : OpR X (compareOp op) (c2 X.K (uCmp op)) := by
  cases op with
  | Eq => exact op_uEq hu
  | NotEq => exact op_uNe hu
  | Lt => exact op_uLt
  | LtE => exact op_uLe
  | Gt => exact op_uGt
  | GtE => exact op_uGe
  | In => exact op_uIn (by omega)
  | NotIn => exact op_uNotIn (by omega)
  | Is => exact op_uIs
  | IsNot => exact op_uIsNot

/-! ### truth -/
def uTru (u : U) (G : UH) (Q : Bool → UH → Prop) : Prop := match u with
  | .non => Q false G
  | .bl b => Q b G
  | .int i => Q (i != 0) G
  | .str x => x.length ≤ sizeLine ∧ Q ((x.length : Int) != 0) G
  | .tup us => Q (!us.isEmpty) G
  | .rol us => Q (!us.isEmpty) G
  | .ref a => (match G a with
    | some (.lst us) => Q (!us.isEmpty) G
    | some (.dK us) => Q (!us.isEmpty) G
    | _ => False)
  | .ty _ => False
theorem RUs.isEmpty {K : PySem.W.Frag} {H : Hp} {us : List U} {vs : List V} (r : RUs K H us vs) : vs.isEmpty = us.isEmpty := by
  cases r <;> rfl
theorem RKV.isEmpty {K : PySem.W.Frag} {H : Hp} {κ : Type} {us : List (κ × U)} {vs : List (κ × V)} (r : RKV K H us vs) : vs.isEmpty = us.isEmpty := by
  cases r <;> rfl
theorem tru_u {H : Hp} {G : UH} {u : U} {v : V} {Q : Bool → UH → Prop} (hg : HR X.K G H) (r : RU X.K H u v) (h : uTru u G Q) : ∃ k, TruV X.K v H k ∧ Q k G := by
  unfold uTru at h
  split at h
  · cases r; exact ⟨_, rfl, h⟩
  · cases r; exact ⟨_, rfl, h⟩
  · cases r; exact ⟨_, rfl, h⟩
  · cases r; exact ⟨_, ⟨h.1, rfl⟩, h.2⟩
  · obtain ⟨a, xs, rfl, h1, r1⟩ := r.tup_inv
    exact ⟨_, .inr (.inl ⟨xs, h1, rfl⟩), by rw [r1.isEmpty]; exact h⟩
  · obtain ⟨a, xs, rfl, h1, r1⟩ := r.rol_inv
    exact ⟨_, .inl ⟨xs, h1.sq, rfl⟩, by rw [r1.isEmpty]; exact h⟩
  · cases r
    split at h
    · rename_i e
      obtain ⟨xs, h1, r1⟩ := hg.lst e
      exact ⟨_, .inl ⟨xs, SqL.of h1, rfl⟩, by rw [r1.isEmpty]; exact h⟩
    · rename_i e
      obtain ⟨xs, h1, r1⟩ := hg _ _ e
      exact ⟨_, .inr (.inr ⟨xs, h1, rfl⟩), by rw [r1.isEmpty]; exact h⟩
    · exact h.elim
  · exact h.elim

/-! ### isinstance -/
def tyN (G : UH) : U → Option String
  | .non => some "NoneType"
  | .bl _ => some "bool"
  | .int _ => some "int"
  | .str _ => some "str"
  | .tup _ => some "tuple"
  | .rol _ => some "list"
  | .ref a => (match G a with
    | some (.lst _) => some "list"
    | some (.dK _) => some "dict"
    | _ => none)
  | .ty _ => none
theorem tyX_of {H : Hp} {G : UH} (hg : HR X.K G H) {u : U} {v : V} {t : String} (r : RU X.K H u v) (h : tyN G u = some t) : TyX X.K H v (.type t) := by
  cases r with
  | non => cases h; exact .base .non
  | bl b => cases h; exact .base (.bl b)
  | int b => cases h; exact .base (.int b)
  | str b => cases h; exact .base (.str b)
  | tup hq r =>
    cases h
    rcases hq with (h1 | ⟨o, h1⟩) | ⟨o, its, n, h1, h2, _⟩
    · exact .base (.tup h1)
    · exact .fTuple h1
    · exact .kTuple h1 h2
  | rol hq r =>
    cases h
    rcases hq with ⟨o, h1⟩ | ⟨o, its, n, h1, h2, _⟩
    · exact .base (.frz h1)
    · exact .kList h1 h2
  | ref a =>
    unfold tyN at h
    simp only at h
    split at h
    · rename_i e
      cases h
      obtain ⟨xs, h1, _⟩ := hg.lst e
      exact .base (.lst h1)
    · rename_i e
      cases h
      obtain ⟨xs, h1, _⟩ := hg _ _ e
      exact .base (.dK h1)
    · cases h
  | ty n => cases h
def isSub (a b : String) : Bool := a == b || (a == "bool" && b == "int")
def tyNames : List String := ["NoneType", "bool", "int", "str", "tuple", "list", "dict"]
theorem kit_sub {K : PySem.W.Frag} {a b : String} (ha : a ∈ tyNames) (hb : b ∈ tyNames) : PySem.W.kitOne K (.type a) (.type b) = some (isSub a b) := by
  refine kit_ty ?_
  revert ha hb
  have h : ∀ a ∈ tyNames, ∀ b ∈ tyNames, kitB a b = some (isSub a b) := by decide +kernel
  exact fun ha hb => h a ha b hb
theorem tyN_mem {G : UH} {u : U} {t : String} (h : tyN G u = some t) : t ∈ tyNames := by
  unfold tyN at h
  split at h <;> first
    | (cases h; done)
    | (cases h; decide)
    | (split at h <;> first | (cases h; done) | (cases h; decide))
/-- isinstance(x, T) -/
def uIsi : UFn := fun us G Q => match us with
  | [x, .ty b] => (match tyN G x with
    | some a => b ∈ tyNames ∧ Q (.bl (isSub a b)) G
    | none => False)
  | _ => False
theorem call_uIsi : CallR X (.builtin "isinstance") (cF X.K uIsi) := by
  intro pins s σ H xs us Q I r h
  obtain ⟨ws, G, Q0, rw', hg, h, k⟩ := h
  unfold uIsi at h
  split at h
  · cases rw' with
    | cons r1 rt =>
      cases rt with
      | cons r2 rt =>
        cases rt
        cases r2
        split at h
        · rename_i a e
          exact call_isi pins s σ H _ us Q I r ⟨_, _, _, _, _, rfl, .ty _, tyX_of hg r1 e, kit_sub (tyN_mem e) h.1, k _ G _ H h.2 (.bl _) hg .refl⟩
        · exact h.elim
  · exact h.elim
end
end UL
set_option Elab.async false
set_option linter.all false
set_option autoImplicit false
set_option maxRecDepth 100000
set_option maxHeartbeats 4000000
/-! UL4: built-in functions, subscripts, slices, methods by values. -/
namespace UL
open PySem PySem.Spec L2
section
variable {X : Cx}
def intsOf : List U → Option (List Int)
  | [] => some []
  | .int i :: us => (intsOf us).map fun ns => i :: ns
  | _ :: _ => none
theorem intsOf_eq : ∀ {us : List U} {ns : List Int}, intsOf us = some ns → us = ns.map U.int
  | [], _, h => by cases h; rfl
  | .int i :: us, _, h => by
    simp only [intsOf, Option.map_eq_some_iff] at h
    obtain ⟨ns, h1, h2⟩ := h
    subst h2
    rw [intsOf_eq h1]; rfl
  | .non :: us, _, h => by cases h
  | .bl _ :: us, _, h => by cases h
  | .str _ :: us, _, h => by cases h
  | .tup _ :: us, _, h => by cases h
  | .rol _ :: us, _, h => by cases h
  | .ref _ :: us, _, h => by cases h
  | .ty _ :: us, _, h => by cases h
theorem intsOf_map : ∀ ns : List Int, intsOf (ns.map U.int) = some ns
  | [] => rfl
  | n :: ns => by simp [intsOf, intsOf_map ns]
def blsOf : List U → Option (List Bool)
  | [] => some []
  | .bl i :: us => (blsOf us).map fun ns => i :: ns
  | _ :: _ => none
theorem blsOf_eq : ∀ {us : List U} {ns : List Bool}, blsOf us = some ns → us = ns.map U.bl
  | [], _, h => by cases h; rfl
  | .bl i :: us, _, h => by
    simp only [blsOf, Option.map_eq_some_iff] at h
    obtain ⟨ns, h1, h2⟩ := h
    subst h2
    rw [blsOf_eq h1]; rfl
  | .non :: us, _, h => by cases h
  | .int _ :: us, _, h => by cases h
  | .str _ :: us, _, h => by cases h
  | .tup _ :: us, _, h => by cases h
  | .rol _ :: us, _, h => by cases h
  | .ref _ :: us, _, h => by cases h
  | .ty _ :: us, _, h => by cases h
theorem blsOf_map : ∀ ns : List Bool, blsOf (ns.map U.bl) = some ns
  | [] => rfl
  | n :: ns => by simp [blsOf, blsOf_map ns]
def strsOf : List U → Option (List Str)
  | [] => some []
  | .str i :: us => (strsOf us).map fun ns => i :: ns
  | _ :: _ => none
theorem strsOf_eq : ∀ {us : List U} {ns : List Str}, strsOf us = some ns → us = ns.map U.str
  | [], _, h => by cases h; rfl
  | .str i :: us, _, h => by
    simp only [strsOf, Option.map_eq_some_iff] at h
    obtain ⟨ns, h1, h2⟩ := h
    subst h2
    rw [strsOf_eq h1]; rfl
  | .non :: us, _, h => by cases h
  | .int _ :: us, _, h => by cases h
  | .bl _ :: us, _, h => by cases h
  | .tup _ :: us, _, h => by cases h
  | .rol _ :: us, _, h => by cases h
  | .ref _ :: us, _, h => by cases h
  | .ty _ :: us, _, h => by cases h
theorem strsOf_map : ∀ ns : List Str, strsOf (ns.map U.str) = some ns
  | [] => rfl
  | n :: ns => by simp [strsOf, strsOf_map ns]

theorem rus1 {K : PySem.W.Frag} {H : Hp} {u : U} {xs : List V} (r : RUs K H [u] xs) : ∃ x, xs = [x] ∧ RU K H u x := by
  cases r with
  | cons r t => cases t; exact ⟨_, rfl, r⟩
theorem rus2 {K : PySem.W.Frag} {H : Hp} {u w : U} {xs : List V} (r : RUs K H [u, w] xs) : ∃ x y, xs = [x, y] ∧ RU K H u x ∧ RU K H w y := by
  cases r with
  | cons r t => obtain ⟨y, rfl, q⟩ := rus1 t; exact ⟨_, _, rfl, r, q⟩

/-! ### built-in functions -/
inductive Blt where
  | len | abs | max2 | min2 | int | str | ord | sum | sorted | tuple | list | all | any | maxL | minL | divmod | isi
  deriving DecidableEq
def uLen : UFn := fun us G Q => match us with
  | [.str x] => x.length ≤ sizeLine ∧ Q (.int x.length) G
  | [.tup us] => Q (.int us.length) G
  | [.rol us] => Q (.int us.length) G
  | [.ref a] => (match G a with
    | some (.lst us) => Q (.int us.length) G
    | some (.dK us) => Q (.int us.length) G
    | _ => False)
  | _ => False
theorem call_uLen : CallR X (.builtin "len") (cF X.K uLen) := by
  intro pins s σ H xs us Q I r h
  obtain ⟨ws, G, Q0, rw', hg, h, k⟩ := h
  unfold uLen at h
  split at h
  · obtain ⟨x, rfl, q⟩ := rus1 rw'
    cases q
    exact call_len pins s σ H _ us Q I r ⟨_, _, rfl, ⟨h.1, rfl⟩, k _ G _ H h.2 (.int _) hg .refl⟩
  · obtain ⟨x, rfl, q⟩ := rus1 rw'
    obtain ⟨a, ys, rfl, h1, r1⟩ := q.tup_inv
    exact call_len pins s σ H _ us Q I r ⟨_, ys.length, rfl, .inr ⟨ys, h1, rfl⟩, by rw [← r1.length]; exact k _ G _ H h (.int _) hg .refl⟩
  · obtain ⟨x, rfl, q⟩ := rus1 rw'
    obtain ⟨a, ys, rfl, h1, r1⟩ := q.rol_inv
    exact call_len pins s σ H _ us Q I r ⟨_, ys.length, rfl, .inl ⟨ys, h1.sq, rfl⟩, by rw [← r1.length]; exact k _ G _ H h (.int _) hg .refl⟩
  · rename_i a
    obtain ⟨x, rfl, q⟩ := rus1 rw'
    cases q
    split at h
    · rename_i e
      obtain ⟨ys, h1, r1⟩ := hg.lst e
      exact call_len pins s σ H _ us Q I r ⟨_, ys.length, rfl, .inl ⟨ys, SqL.of h1, rfl⟩, by rw [← r1.length]; exact k _ G _ H h (.int _) hg .refl⟩
    · rename_i ks e
      obtain ⟨ys, h1, r1⟩ := hg a _ e
      have hl : ks.length = ys.length := Paired.length r1
      obtain ⟨w', rfl, rr⟩ := vals1 r
      cases rr
      exact d_len I (.inl h1) fun t s' I' => ⟨.int ys.length, H, I', ⟨t, rfl⟩, by rw [← hl]; exact k _ G _ H h (.int _) hg .refl⟩
    · exact h.elim
  · exact h.elim
def uAbs : UFn := fun us G Q => match us with
  | [.int i] => Q (.int i.natAbs) G
  | _ => False
theorem call_uAbs : CallR X (.builtin "abs") (cF X.K uAbs) := by
  intro pins s σ H xs us Q I r h
  obtain ⟨ws, G, Q0, rw', hg, h, k⟩ := h
  unfold uAbs at h
  split at h
  · rename_i i
    obtain ⟨x, rfl, q⟩ := rus1 rw'
    cases q
    refine call_abs pins s σ H _ us Q I r ⟨_, rfl, ?_⟩
    have e : (if i < 0 then -i else i) = (i.natAbs : Int) := by split <;> omega
    rw [e]
    exact k _ G _ H h (.int _) hg .refl
  · exact h.elim
def uMax2 : UFn := fun us G Q => match us with
  | [.int i, .int j] => Q (.int (max i j)) G
  | _ => False
theorem call_uMax2 (hc : X.calm = true) : CallR X (.builtin "max") (cF X.K uMax2) := by
  intro pins s σ H xs us Q I r h
  obtain ⟨ws, G, Q0, rw', hg, h, k⟩ := h
  unfold uMax2 at h
  split at h
  · rename_i i j
    obtain ⟨x, y, rfl, q1, q2⟩ := rus2 rw'
    cases q1; cases q2
    refine call_max2 hc pins s σ H _ us Q I r ⟨_, _, rfl, ?_⟩
    have e : (if j > i then j else i) = max i j := by split <;> omega
    rw [e]
    exact k _ G _ H h (.int _) hg .refl
  · exact h.elim
def uMin2 : UFn := fun us G Q => match us with
  | [.int i, .int j] => Q (.int (min i j)) G
  | _ => False
theorem call_uMin2 (hc : X.calm = true) : CallR X (.builtin "min") (cF X.K uMin2) := by
  intro pins s σ H xs us Q I r h
  obtain ⟨ws, G, Q0, rw', hg, h, k⟩ := h
  unfold uMin2 at h
  split at h
  · rename_i i j
    obtain ⟨x, y, rfl, q1, q2⟩ := rus2 rw'
    cases q1; cases q2
    refine call_min2 hc pins s σ H _ us Q I r ⟨_, _, rfl, ?_⟩
    have e : (if j < i then j else i) = min i j := by split <;> omega
    rw [e]
    exact k _ G _ H h (.int _) hg .refl
  · exact h.elim
def uInt : UFn := fun us G Q => match us with
  | [.int i] => Q (.int i) G
  | [.bl b] => Q (.int (if b then 1 else 0)) G
  | [.str a] => (match PySem.intText? a with
    | some n => a.length ≤ 640 ∧ Q (.int n) G
    | none => False)
  | _ => False
theorem call_uInt : CallR X (.type "int") (cF X.K uInt) := by
  intro pins s σ H xs us Q I r h
  obtain ⟨ws, G, Q0, rw', hg, h, k⟩ := h
  unfold uInt at h
  split at h
  · obtain ⟨x, rfl, q⟩ := rus1 rw'
    cases q
    exact call_int1 pins s σ H _ us Q I r (.inl ⟨_, rfl, k _ G _ H h (.int _) hg .refl⟩)
  · obtain ⟨x, rfl, q⟩ := rus1 rw'
    cases q
    exact call_int1 pins s σ H _ us Q I r (.inr ⟨_, rfl, k _ G _ H h (.int _) hg .refl⟩)
  · obtain ⟨x, rfl, q⟩ := rus1 rw'
    cases q
    split at h
    · rename_i n e
      exact call_int_str pins s σ H _ us Q I r ⟨_, _, rfl, e, h.1, k _ G _ H h.2 (.int _) hg .refl⟩
    · exact h.elim
  · exact h.elim
def uStr : UFn := fun us G Q => match us with
  | [.int i] => i.natAbs.log2 < 1920 ∧ Q (.str (toString i)) G
  | _ => False
theorem call_uStr : CallR X (.type "str") (cF X.K uStr) := by
  intro pins s σ H xs us Q I r h
  obtain ⟨ws, G, Q0, rw', hg, h, k⟩ := h
  unfold uStr at h
  split at h
  · obtain ⟨x, rfl, q⟩ := rus1 rw'
    cases q
    exact call_str_int pins s σ H _ us Q I r ⟨_, rfl, h.1, k _ G _ H h.2 (.str _) hg .refl⟩
  · exact h.elim
def uOrd : UFn := fun us G Q => match us with
  | [.str x] => x.length = 1 ∧ Q (.int (x.cps.getD 0 0 : Nat)) G
  | _ => False
theorem call_uOrd : CallR X (.builtin "ord") (cF X.K uOrd) := by
  intro pins s σ H xs us Q I r h
  obtain ⟨ws, G, Q0, rw', hg, h, k⟩ := h
  unfold uOrd at h
  split at h
  · obtain ⟨x, rfl, q⟩ := rus1 rw'
    cases q
    exact call_ord pins s σ H _ us Q I r ⟨_, rfl, h.1, k _ G _ H h.2 (.int _) hg .refl⟩
  · exact h.elim
/-- a list of ints at a place, or a locked one -/
def uIntL (us : List U) (G : UH) (k : List Int → Prop) : Prop := match us with
  | [.ref a] => (match G a with
    | some (.lst us) => (match intsOf us with
      | some ns => k ns
      | none => False)
    | _ => False)
  | _ => False
theorem intL_of {K : PySem.W.Frag} {H : Hp} {G : UH} (hg : HR K G H) {us : List U} {xs : List V} (r : RUs K H us xs) {k : List Int → Prop} (h : uIntL us G k) :
    ∃ a ns, xs = [.ref a] ∧ H a = some (.lst (ns.map V.int)) ∧ G a = some (.lst (ns.map U.int)) ∧ k ns := by
  unfold uIntL at h
  split at h
  · obtain ⟨x, rfl, q⟩ := rus1 r
    cases q
    split at h
    · rename_i us e
      split at h
      · rename_i ns e2
        obtain ⟨ys, h1, r1⟩ := hg.lst e
        have e3 := intsOf_eq e2
        subst e3
        have e4 := RUs.ints r1
        subst e4
        exact ⟨_, ns, rfl, h1, e, h⟩
      · exact h.elim
    · exact h.elim
  · exact h.elim
def uSum : UFn := fun us G Q => uIntL us G fun ns => Q (.int ns.sum) G
theorem call_uSum (hc : X.calm = true) : CallR X (.builtin "sum") (cF X.K uSum) := by
  intro pins s σ H xs us Q I r h
  obtain ⟨ws, G, Q0, rw', hg, h, k⟩ := h
  obtain ⟨a, ns, rfl, h1, _, h⟩ := intL_of hg rw' h
  exact cr_sum hc pins s σ H _ us Q I r ⟨a, ns, rfl, SqL.of h1, k _ G _ H h (.int _) hg .refl⟩
def uMaxL : UFn := fun us G Q => uIntL us G fun ns => 0 < ns.length ∧ ∀ m, m ∈ ns → (∀ y, y ∈ ns → y ≤ m) → Q (.int m) G
theorem call_uMaxL (hc : X.calm = true) : CallR X (.builtin "max") (cF X.K uMaxL) := by
  intro pins s σ H xs us Q I r h
  obtain ⟨ws, G, Q0, rw', hg, h, k⟩ := h
  obtain ⟨a, ns, rfl, h1, _, h⟩ := intL_of hg rw' h
  exact cr_max hc pins s σ H _ us Q I r ⟨a, ns, rfl, SqL.of h1, h.1, fun m h3 h4 => k _ G _ H (h.2 m h3 h4) (.int _) hg .refl⟩
def uMinL : UFn := fun us G Q => uIntL us G fun ns => 0 < ns.length ∧ ∀ m, m ∈ ns → (∀ y, y ∈ ns → m ≤ y) → Q (.int m) G
theorem call_uMinL (hc : X.calm = true) : CallR X (.builtin "min") (cF X.K uMinL) := by
  intro pins s σ H xs us Q I r h
  obtain ⟨ws, G, Q0, rw', hg, h, k⟩ := h
  obtain ⟨a, ns, rfl, h1, _, h⟩ := intL_of hg rw' h
  exact cr_min hc pins s σ H _ us Q I r ⟨a, ns, rfl, SqL.of h1, h.1, fun m h3 h4 => k _ G _ H (h.2 m h3 h4) (.int _) hg .refl⟩
def uSorted : UFn := fun us G Q => uIntL us G fun ns => ∀ ns' : List Int, ns'.Perm ns → ns'.Pairwise (· ≤ ·) → ∀ p, G p = none → Q (.ref p) (up G p (.lst (ns'.map U.int)))
theorem call_uSorted : CallR X (.builtin "sorted") (cF X.K uSorted) := by
  intro pins s σ H xs us Q I r h
  obtain ⟨ws, G, Q0, rw', hg, h, k⟩ := h
  obtain ⟨a, ns, rfl, h1, _, h⟩ := intL_of hg rw' h
  refine cr_sortedI pins s σ H _ us Q I r ⟨a, ns, rfl, SqL.of h1, fun ns' p p1 p2 hp => ?_⟩
  obtain ⟨e, g⟩ := hg.newLst hp (RUs.of_ints ns')
  exact k _ _ _ _ (h ns' p1 p2 p (hg.fresh hp)) (.ref p) g e
def uTuple : UFn := fun us G Q => match us with
  | [.tup us] => Q (.tup us) G
  | [.rol us] => Q (.tup us) G
  | [.ref a] => (match G a with
    | some (.lst us) => Q (.tup us) G
    | _ => False)
  | _ => False
theorem call_uTuple : CallR X (.type "tuple") (cF X.K uTuple) := by
  intro pins s σ H xs us Q I r h
  obtain ⟨ws, G, Q0, rw', hg, h, k⟩ := h
  unfold uTuple at h
  split at h
  · obtain ⟨x, rfl, q⟩ := rus1 rw'
    obtain ⟨a, ys, rfl, h1, r1⟩ := q.tup_inv
    exact call_tuple_of pins s σ H _ us Q I r ⟨a, ys, rfl, .inr ⟨h1, k _ G _ H h q hg .refl⟩⟩
  · obtain ⟨x, rfl, q⟩ := rus1 rw'
    obtain ⟨a, ys, rfl, h1, r1⟩ := q.rol_inv
    refine call_tuple_of pins s σ H _ us Q I r ⟨a, ys, rfl, .inl ⟨h1.sq, fun l hl => ?_⟩⟩
    obtain ⟨e, g, q⟩ := hg.newTup hl r1
    exact k _ G _ _ h q g e
  · obtain ⟨x, rfl, q⟩ := rus1 rw'
    cases q
    split at h
    · rename_i e
      obtain ⟨ys, h1, r1⟩ := hg.lst e
      refine call_tuple_of pins s σ H _ us Q I r ⟨_, ys, rfl, .inl ⟨SqL.of h1, fun l hl => ?_⟩⟩
      obtain ⟨e, g, q⟩ := hg.newTup hl r1
      exact k _ G _ _ h q g e
    · exact h.elim
  · exact h.elim
def uList : UFn := fun us G Q => match us with
  | [.tup us] => ∀ p, G p = none → Q (.ref p) (up G p (.lst us))
  | [.rol us] => ∀ p, G p = none → Q (.ref p) (up G p (.lst us))
  | [.ref a] => (match G a with
    | some (.lst us) => ∀ p, G p = none → Q (.ref p) (up G p (.lst us))
    | _ => False)
  | _ => False
theorem call_uList : CallR X (.type "list") (cF X.K uList) := by
  intro pins s σ H xs us Q I r h
  obtain ⟨ws, G, Q0, rw', hg, h, k⟩ := h
  unfold uList at h
  split at h
  · obtain ⟨x, rfl, q⟩ := rus1 rw'
    obtain ⟨a, ys, rfl, h1, r1⟩ := q.tup_inv
    refine call_list_of pins s σ H _ us Q I r ⟨a, ys, rfl, .inr h1, fun l hl => ?_⟩
    obtain ⟨e, g⟩ := hg.newLst hl r1
    exact k _ _ _ _ (h l (hg.fresh hl)) (.ref l) g e
  · obtain ⟨x, rfl, q⟩ := rus1 rw'
    obtain ⟨a, ys, rfl, h1, r1⟩ := q.rol_inv
    refine call_list_of pins s σ H _ us Q I r ⟨a, ys, rfl, .inl h1.sq, fun l hl => ?_⟩
    obtain ⟨e, g⟩ := hg.newLst hl r1
    exact k _ _ _ _ (h l (hg.fresh hl)) (.ref l) g e
  · obtain ⟨x, rfl, q⟩ := rus1 rw'
    cases q
    split at h
    · rename_i e
      obtain ⟨ys, h1, r1⟩ := hg.lst e
      refine call_list_of pins s σ H _ us Q I r ⟨_, ys, rfl, .inl (SqL.of h1), fun l hl => ?_⟩
      obtain ⟨e, g⟩ := hg.newLst hl r1
      exact k _ _ _ _ (h l (hg.fresh hl)) (.ref l) g e
    · exact h.elim
  · exact h.elim
def uBlL (us : List U) (G : UH) (k : List Bool → Prop) : Prop := match us with
  | [.ref a] => (match G a with
    | some (.lst us) => (match blsOf us with
      | some ns => k ns
      | none => False)
    | _ => False)
  | _ => False
theorem blL_of {K : PySem.W.Frag} {H : Hp} {G : UH} (hg : HR K G H) {us : List U} {xs : List V} (r : RUs K H us xs) {k : List Bool → Prop} (h : uBlL us G k) :
    ∃ a ns, xs = [.ref a] ∧ H a = some (.lst (ns.map V.bl)) ∧ k ns := by
  unfold uBlL at h
  split at h
  · obtain ⟨x, rfl, q⟩ := rus1 r
    cases q
    split at h
    · rename_i us e
      split at h
      · rename_i ns e2
        obtain ⟨ys, h1, r1⟩ := hg.lst e
        have e3 := blsOf_eq e2
        subst e3
        have e4 := RUs.bls r1
        subst e4
        exact ⟨_, ns, rfl, h1, h⟩
      · exact h.elim
    · exact h.elim
  · exact h.elim
def uAll : UFn := fun us G Q => uBlL us G fun bs => Q (.bl (bs.all id)) G
theorem call_uAll (hc : X.calm = true) : CallR X (.builtin "all") (cF X.K uAll) := by
  intro pins s σ H xs us Q I r h
  obtain ⟨ws, G, Q0, rw', hg, h, k⟩ := h
  obtain ⟨a, ns, rfl, h1, h⟩ := blL_of hg rw' h
  exact cr_all hc pins s σ H _ us Q I r ⟨a, ns, rfl, SqL.of h1, k _ G _ H h (.bl _) hg .refl⟩
def uAny : UFn := fun us G Q => uBlL us G fun bs => Q (.bl (bs.any id)) G
theorem call_uAny (hc : X.calm = true) : CallR X (.builtin "any") (cF X.K uAny) := by
  intro pins s σ H xs us Q I r h
  obtain ⟨ws, G, Q0, rw', hg, h, k⟩ := h
  obtain ⟨a, ns, rfl, h1, h⟩ := blL_of hg rw' h
  exact cr_any hc pins s σ H _ us Q I r ⟨a, ns, rfl, SqL.of h1, k _ G _ H h (.bl _) hg .refl⟩
def uDivmod : UFn := fun us G Q => match us with
  | [.int i, .int j] => CDiv i j ∧ Q (.tup [.int (i / j), .int (i % j)]) G
  | _ => False
theorem call_uDivmod : CallR X (.builtin "divmod") (cF X.K uDivmod) := by
  intro pins s σ H xs us Q I r h
  obtain ⟨ws, G, Q0, rw', hg, h, k⟩ := h
  unfold uDivmod at h
  split at h
  · rename_i i j
    obtain ⟨x, y, rfl, q1, q2⟩ := rus2 rw'
    cases q1; cases q2
    refine call_divmod pins s σ H _ us Q I r ⟨_, _, rfl, h.1, fun p hp => ?_⟩
    obtain ⟨e, g, q⟩ := hg.newTup hp (ws := [.int (i / j), .int (i % j)]) (.cons (.int _) (.cons (.int _) .nil))
    exact k _ G _ _ h.2 q g e
  · exact h.elim
/-- the name, whether it is a type, its id -/
def Blt.nm : Blt → Str
  | .len => "len"
  | .abs => "abs"
  | .max2 => "max"
  | .min2 => "min"
  | .int => "int"
  | .str => "str"
  | .ord => "ord"
  | .sum => "sum"
  | .sorted => "sorted"
  | .tuple => "tuple"
  | .list => "list"
  | .all => "all"
  | .any => "any"
  | .maxL => "max"
  | .minL => "min"
  | .divmod => "divmod"
  | .isi => "isinstance"
def Blt.val : Blt → Value
  | .len => .builtin "len"
  | .abs => .builtin "abs"
  | .max2 => .builtin "max"
  | .min2 => .builtin "min"
  | .int => .type "int"
  | .str => .type "str"
  | .ord => .builtin "ord"
  | .sum => .builtin "sum"
  | .sorted => .builtin "sorted"
  | .tuple => .type "tuple"
  | .list => .type "list"
  | .all => .builtin "all"
  | .any => .builtin "any"
  | .maxL => .builtin "max"
  | .minL => .builtin "min"
  | .divmod => .builtin "divmod"
  | .isi => .builtin "isinstance"
def Blt.fn : Blt → UFn
  | .len => uLen
  | .abs => uAbs
  | .max2 => uMax2
  | .min2 => uMin2
  | .int => uInt
  | .str => uStr
  | .ord => uOrd
  | .sum => uSum
  | .sorted => uSorted
  | .tuple => uTuple
  | .list => uList
  | .all => uAll
  | .any => uAny
  | .maxL => uMaxL
  | .minL => uMinL
  | .divmod => uDivmod
  | .isi => uIsi
theorem Blt.ok (hc : X.calm = true) (b : Blt) : CallR X b.val (cF X.K b.fn) := by
  cases b with
  | len => exact call_uLen
  | abs => exact call_uAbs
  | max2 => exact call_uMax2 hc
  | min2 => exact call_uMin2 hc
  | int => exact call_uInt
  | str => exact call_uStr
  | ord => exact call_uOrd
  | sum => exact call_uSum hc
  | sorted => exact call_uSorted
  | tuple => exact call_uTuple
  | list => exact call_uList
  | all => exact call_uAll hc
  | any => exact call_uAny hc
  | maxL => exact call_uMaxL hc
  | minL => exact call_uMinL hc
  | divmod => exact call_uDivmod
  | isi => exact call_uIsi

/-! ### subscripts -/
def uIx : UOp := fun x y G Q => match x, y with
  | .tup us, .int i => (match atI us i with
    | some u => Q u G
    | none => False)
  | .rol us, .int i => (match atI us i with
    | some u => Q u G
    | none => False)
  | .str z, .int i => z.length ≤ sizeLine ∧ (match atI z.cps.toList i with
    | some c => Q (.str ⟨#[c]⟩) G
    | none => False)
  | .ref a, k => (match G a with
    | some (.lst us) => (match k with
      | .int i => (match atI us i with
        | some u => Q u G
        | none => False)
      | _ => False)
    | some (.dK kvs) => (match keyOf k with
      | some kk => (match lookK kvs kk with
        | some u => Q u G
        | none => False)
      | none => False)
    | _ => False)
  | _, _ => False
theorem atI_rel {K : PySem.W.Frag} {H : Hp} {us : List U} {vs : List V} (r : RUs K H us vs) {i : Int} {u : U} (h : atI us i = some u) : ∃ v, atI vs i = some v ∧ RU K H u v := by
  unfold atI at *
  rw [← r.length]
  cases e : ixN us.length i with
  | none => rw [e] at h; cases h
  | some j =>
    rw [e] at h
    exact r.get (i := j) h
theorem ix_dict (hu : X.A.units + 1 < cLine) : IxR X (fun x y H Q => ∃ a v, x = .ref a ∧ DGet H a y (some v) ∧ Q v H) := by
  intro value slice pins s σ H x y v u Q I rx ry h hs
  obtain ⟨a, z, rfl, g, q⟩ := h
  cases (show v = Value.ref a from rx)
  exact PyProof.Rows.tail_any (dict_typeIs I g) slot_dict_getitem.lookup (d_getItem hu I g ry fun w' s' I' r' => ⟨z, H, I', r', q⟩) hs
theorem ix_u (hu : X.A.units + 1 < cLine) : IxR X (c2 X.K uIx) := by
  intro value slice pins s σ H x y v u Q I rx ry h hs
  obtain ⟨a, b, G, Q0, ra, rb, hg, h, k⟩ := h
  unfold uIx at h
  split at h
  · split at h
    · rename_i e
      obtain ⟨p, xs, rfl, h1, r1⟩ := ra.tup_inv
      cases rb
      obtain ⟨vv, e2, r2⟩ := atI_rel r1 e
      exact ix_tup value slice pins s σ H _ _ v u Q I rx ry ⟨p, xs, _, vv, rfl, rfl, h1, e2, k _ G _ H h r2 hg .refl⟩ hs
    · exact h.elim
  · split at h
    · rename_i e
      obtain ⟨p, xs, rfl, h1, r1⟩ := ra.rol_inv
      cases rb
      obtain ⟨vv, e2, r2⟩ := atI_rel r1 e
      exact ix_list value slice pins s σ H _ _ v u Q I rx ry ⟨p, xs, _, vv, rfl, rfl, h1.sq, e2, k _ G _ H h r2 hg .refl⟩ hs
    · exact h.elim
  · obtain ⟨hz, h⟩ := h
    split at h
    · rename_i e
      cases ra; cases rb
      exact ix_str value slice pins s σ H _ _ v u Q I rx ry ⟨_, _, _, rfl, rfl, hz, e, k _ G _ H h (.str _) hg .refl⟩ hs
    · exact h.elim
  · cases ra with
    | ref =>
      split at h
      · rename_i us e
        split at h
        · split at h
          · rename_i e3
            obtain ⟨xs, h1, r1⟩ := hg.lst e
            cases rb
            obtain ⟨vv, e2, r2⟩ := atI_rel r1 e3
            exact ix_list value slice pins s σ H _ _ v u Q I rx ry ⟨_, xs, _, vv, rfl, rfl, SqL.of h1, e2, k _ G _ H h r2 hg .refl⟩ hs
          · exact h.elim
        · exact h.elim
      · rename_i kvs e
        split at h
        · rename_i key ek
          split at h
          · rename_i uu el
            obtain ⟨xs, h1, r1⟩ := hg _ _ e
            have hk := key_rel rb ek
            subst hk
            rcases lookK_rel r1 key with ⟨e1, e2⟩ | ⟨u3, v3, e1, e2, r3⟩
            · rw [el] at e1; cases e1
            · rw [el] at e1; cases e1
              exact ix_dict hu value slice pins s σ H _ _ v u Q I rx ry ⟨_, v3, rfl, by rw [← e2]; exact DGet.k h1, k _ G _ H h r3 hg .refl⟩ hs
          · exact h.elim
        · exact h.elim
      · exact h.elim
  · exact h.elim
/-! ### slices -/
def cutU (xs : List U) (lo hi : Option Int) : List U := (xs.drop (HT.sIx xs.length 0 lo)).take (HT.sIx xs.length xs.length hi - HT.sIx xs.length 0 lo)
theorem cut_rel {K : PySem.W.Frag} {H : Hp} {us : List U} {vs : List V} (r : RUs K H us vs) (lo hi : Option Int) : RUs K H (cutU us lo hi) (cutV vs lo hi) := by
  unfold cutU cutV
  rw [r.length]
  exact RUs.take _ (RUs.drop _ r)
def uSl (x : U) (lo hi : Option Int) : UH → UK → Prop := fun G Q => match x with
  | .tup us => Q (.tup (cutU us lo hi)) G
  | .rol us => ∀ p, G p = none → Q (.ref p) (up G p (.lst (cutU us lo hi)))
  | .str z => z.length ≤ sizeLine ∧ Q (.str (cutS z lo hi)) G
  | .ref a => (match G a with
    | some (.lst us) => ∀ p, G p = none → Q (.ref p) (up G p (.lst (cutU us lo hi)))
    | _ => False)
  | _ => False
def cSl (K : PySem.W.Frag) : V → Option Int → Option Int → Hp → VK → Prop := fun x lo hi H Q => ∃ u G Q0, RU K H u x ∧ HR K G H ∧ uSl u lo hi G Q0 ∧ ∀ z G' v H', Q0 z G' → RU K H' z v → HR K G' H' → Ext H H' → Q v H'
theorem cutU_all {us : List U} {lo hi : Option Int} (h : HT.sIx us.length 0 lo = 0 ∧ HT.sIx us.length us.length hi = us.length) : cutU us lo hi = us := by
  unfold cutU
  rw [h.1, h.2]
  simp
theorem sl_u : SlR X (cSl X.K) := by
  intro pins s σ H x v vl vu lo hi sl Q I rx hs pl pu h
  obtain ⟨a, G, Q0, ra, hg, h, k⟩ := h
  unfold uSl at h
  split at h
  · obtain ⟨p, xs, rfl, h1, r1⟩ := ra.tup_inv
    refine sl_tupA pins s σ H _ v vl vu lo hi sl Q I rx hs pl pu ⟨p, xs, rfl, h1, fun e => ?_, fun _ l hl => ?_⟩
    · rw [← r1.length] at e
      rw [cutU_all e] at h
      exact k _ G _ H h ra hg .refl
    · obtain ⟨e, g, q⟩ := hg.newTup hl (cut_rel r1 lo hi)
      exact k _ G _ _ h q g e
  · obtain ⟨p, xs, rfl, h1, r1⟩ := ra.rol_inv
    refine sl_list pins s σ H _ v vl vu lo hi sl Q I rx hs pl pu ⟨p, xs, rfl, h1.sq, fun l hl => ?_⟩
    obtain ⟨e, g⟩ := hg.newLst hl (cut_rel r1 lo hi)
    exact k _ _ _ _ (h l (hg.fresh hl)) (.ref l) g e
  · cases ra
    exact sl_str pins s σ H _ v vl vu lo hi sl Q I rx hs pl pu ⟨_, rfl, h.1, k _ G _ H h.2 (.str _) hg .refl⟩
  · cases ra
    split at h
    · rename_i e
      obtain ⟨xs, h1, r1⟩ := hg.lst e
      refine sl_list pins s σ H _ v vl vu lo hi sl Q I rx hs pl pu ⟨_, xs, rfl, SqL.of h1, fun l hl => ?_⟩
      obtain ⟨e, g⟩ := hg.newLst hl (cut_rel r1 lo hi)
      exact k _ _ _ _ (h l (hg.fresh hl)) (.ref l) g e
    · exact h.elim
  · exact h.elim
end
end UL
set_option Elab.async false
set_option linter.all false
set_option autoImplicit false
set_option maxRecDepth 100000
set_option maxHeartbeats 4000000
/-! UL5: enumerate and zip over lists and tuples in any mix. -/
namespace UL
open PySem PySem.Spec L2
/-- a list (false) or a tuple (true) that is read -/
def SqK (K : PySem.W.Frag) (H : Hp) : Bool → Addr → List V → Prop
  | false => SqL K H
  | true => SqT K H
def ItK (h : Heap) : Bool → Addr → Addr → Nat → Prop
  | false => fun it a i => h.IsListIter it a i
  | true => fun it a i => h.IsTupleIter it a i
def IsK (h : Heap) : Bool → Addr → Array Value → Prop
  | false => fun a its => h.IsList a its
  | true => fun a its => h.IsTuple a its
def itO : Bool → Addr → Obj
  | false => fun a => { cls := .type "list_iterator", data := .fields #[.ref a, .int 0 0] }
  | true => fun a => { cls := .type "tuple_iterator", data := .fields #[.ref a, .int 0 0] }
theorem beginsK (k : Bool) (a : Addr) (items : Array Value) : Begins (.ref a) (itO k a) fun h => IsK h k a items := by
  cases k with
  | false => exact begins_list a items
  | true => exact begins_tuple a items
theorem ItK.new {h : Heap} {k : Bool} {it a : Addr} (e : h.get? it = some (itO k a)) : ItK h k it a 0 := by
  cases k with
  | false => exact ⟨_, e, rfl, rfl⟩
  | true => exact ⟨_, e, rfl, rfl⟩
theorem ItK.at {h h' : Heap} {k : Bool} {it a : Addr} {i : Nat} (st : ItK h k it a i) (f : ∀ o, h.get? it = some o → h'.get? it = some o) : ItK h' k it a i := by
  cases k with
  | false => exact Heap.IsListIter.at st f
  | true => exact Heap.IsTupleIter.at st f
theorem ItK.obj {h : Heap} {k : Bool} {it a : Addr} {i : Nat} (st : ItK h k it a i) : ∃ o, h.get? it = some o ∧ ∀ v, o.data ≠ .cell v := by
  cases k with
  | false =>
    obtain ⟨o, e, _, d⟩ := st
    exact ⟨o, e, fun v z => by rw [d] at z; cases z⟩
  | true =>
    obtain ⟨o, e, _, d⟩ := st
    exact ⟨o, e, fun v z => by rw [d] at z; cases z⟩
theorem drawsK {prog : Program} {w : World} {A : Around} (k : Bool) (hh : A.handled = none) (it l : Addr) (hne : l ≠ it) (items : Array Value) :
    Draws prog w A it [it, l] items.size (fun i v => items[i]? = some v) (fun i h => ItK h k it l i ∧ IsK h k l items) := by
  cases k with
  | false => exact Draws.list hh it l hne items
  | true => exact Draws.tuple hh it l hne items
section
variable {X : Cx} {pins : List (Addr × Obj)} {σ : L2.St} {H : Hp} {s : Shared}
theorem Inv.sqk (I : Inv X pins σ H s) {k : Bool} {a : Addr} {xs : List V} (h : SqK X.K H k a xs) : ∃ its : List Value, Vals xs its ∧ IsK s.heap k a its.toArray ∧ (∃ o, s.heap.get? a = some o ∧ ∀ vs, o.data ≠ .fields vs) := by
  cases k with
  | false =>
    obtain ⟨its, r, p, _⟩ := I.list h
    obtain ⟨o, n, e, _, _, d⟩ := id p
    exact ⟨its, r, p.isList, o, e, fun vs z => by rw [d] at z; cases z⟩
  | true =>
    obtain ⟨its, r, p, _⟩ := I.tuple h
    obtain ⟨o, e, _, n, d⟩ := id p
    exact ⟨its, r, p, o, e, fun vs z => by rw [d] at z; cases z⟩
theorem Inv.sqk_inj (I : Inv X pins σ H s) {k : Bool} {a : Addr} {xs ys : List V} (h : SqK X.K H k a xs) (h' : SqK X.K H k a ys) : xs = ys := by
  cases k with
  | false => exact I.list_inj h h'
  | true => exact I.tuple_inj h h'
/-- an iterator is not what it walks -/
theorem ItK.ne {h : Heap} {k : Bool} {it a : Addr} {i : Nat} (st : ItK h k it a i) (o : Obj) (e : h.get? a = some o) (d : ∀ vs, o.data ≠ .fields vs) : a ≠ it := by
  intro z
  subst z
  cases k with
  | false =>
    obtain ⟨o', e', _, d'⟩ := st
    rw [e] at e'; cases e'
    exact d _ d'
  | true =>
    obtain ⟨o', e', _, d'⟩ := st
    rw [e] at e'; cases e'
    exact d _ d'
end

/-! ### zip -/
def ItzK (K : PySem.W.Frag) (k1 k2 : Bool) (a b : Addr) : It :=
  ⟨fun i H => ∃ (xs ys : List V) (x y : V), SqK K H k1 a xs ∧ SqK K H k2 b ys ∧ xs[i]? = some x ∧ ys[i]? = some y,
    fun i H v H' => ∃ T x y, v = .ref T ∧ H T = none ∧ H' = upd H T (.tup [x, y]) ∧ (∀ xs, SqK K H k1 a xs → xs[i]? = some x) ∧ ∀ ys, SqK K H k2 b ys → ys[i]? = some y,
    fun i H => ∃ xs ys : List V, SqK K H k1 a xs ∧ SqK K H k2 b ys ∧ i ≤ xs.length ∧ i ≤ ys.length ∧ (xs.length = i ∨ ys.length = i)⟩
theorem turn_zipK {P : Program} {w : World} {K : PySem.W.Frag} {elts : List Expr} {kk : Nat} {tpos : Pos} {k1 k2 : Bool} {a b z TI TO i1 i2 : Addr} (D : ZipSep2 z TI TO i1 i2 [i1, a] [i2, b]) :
    Turn P w K (.Tuple elts kk tpos) (ItzK K k1 k2 a b) [z, TI, TO, i1, i2] z (fun i h => IsZip h z TI TO .none ∧ IsTupOf2 h TI (.ref i1) (.ref i2) ∧ (∃ x y, IsTupOf2 h TO x y) ∧ ItK h k1 i1 a i ∧ ItK h k2 i2 b i) where
  mem := by simp
  obj := fun i h st c hc => by
    obtain ⟨hz, hTI, ⟨x, y, hTO⟩, h1, h2⟩ := st
    have e' : c = z ∨ c = TI ∨ c = TO ∨ c = i1 ∨ c = i2 := by simpa using hc
    rcases e' with q | q | q | q | q
    · rw [q]; exact ⟨_, hz, fun v q => nomatch q⟩
    · rw [q]; exact ⟨_, hTI, fun v q => nomatch q⟩
    · rw [q]; exact ⟨_, hTO, fun v q => nomatch q⟩
    · rw [q]; exact h1.obj
    · rw [q]; exact h2.obj
  keep := fun i h h' st k => by
    obtain ⟨hz, hTI, ⟨x, y, hTO⟩, h1, h2⟩ := st
    exact ⟨k z (by simp) _ hz, k TI (by simp) _ hTI, ⟨x, y, k TO (by simp) _ hTO⟩, h1.at fun o q => k i1 (by simp) o q, h2.at fun o q => k i2 (by simp) o q⟩
  item := by
    intro X hP hw hK hc i pins s σ H E I hf st hg
    subst hP hw hK
    obtain ⟨hz, hTI, ⟨x0, y0, hTO⟩, h1, h2⟩ := st
    obtain ⟨xs, ys, x, y, hqx, hqy, hx, hy⟩ := hg
    obtain ⟨its, rv, p, o1, e1, d1⟩ := UL.Inv.sqk I hqx
    obtain ⟨its2, rv2, p2, o2, e2, d2⟩ := UL.Inv.sqk I hqy
    obtain ⟨u, hu, ru⟩ := rv.get hx
    obtain ⟨u2, hu2, ru2⟩ := rv2.get hy
    have hzl : z < s.heap.objs.size := Heap.lt_size hz
    have hh : X.A.in1.handled = none := I.ok.hd hc
    refine wpAny_pyNext_zipD2_item (i := i) D (drawsK k1 hh i1 a (h1.ne o1 e1 d1) its.toArray) (drawsK k2 hh i2 b (h2.ne o2 e2 d2) its2.toArray) hz hTI hTO ⟨h1, p⟩ ⟨h2, p2⟩
      (by have := (List.getElem?_eq_some_iff.mp hu).1; simpa using this) (by have := (List.getElem?_eq_some_iff.mp hu2).1; simpa using this) fun x1 x2 h' tk y1 y2 z' TO' st1 st2 hT hsz hk => ?_
    have ex1 : x1 = u := by
      have q : its.toArray[i]? = some u := by simpa using hu
      rw [q] at y1; exact (Option.some.inj y1).symm
    have ex2 : x2 = u2 := by
      have q : its2.toArray[i]? = some u2 := by simpa using hu2
      rw [q] at y2; exact (Option.some.inj y2).symm
    subst ex1; subst ex2
    refine ⟨_, rfl, wpAny_letOwnedTupleGo_zip (s := { s with heap := h', toks := tk }) z' fun h'' z'' sb => ?_⟩
    have hT2 : h''.get? s.heap.objs.size = some { cls := .type "tuple", data := .seq #[x1, x2] } := (sb.2 _ (Nat.ne_of_gt hzl)).trans hT
    have new : ObjOk X.prog X.w (upd H s.heap.objs.size (.tup [x, y])) h'' s.heap.objs.size (.tup [x, y]) :=
      ⟨by show 2 ≤ sizeLine; decide, [x1, x2], .cons ru (.cons ru2 .nil), ⟨_, hT2, rfl, _, rfl⟩⟩
    have I1 : Inv X pins σ (upd H s.heap.objs.size (.tup [x, y])) { s with heap := h'', toks := tk } :=
      I.turnedNew (t' := tk) (ch := [z, TI, TO, i1, i2]) (fun c o hb q => (sb.2 c (fun q' => hb (by simp [q']))).trans (hk c o (fun q' => hb (by simp [q'])) (fun q' => hb (by simp [q'])) (fun q' => hb (by simp [q'])) (fun q' => hb (by simp [q'])) q)) hf (Nat.le_refl _) new
    refine ⟨.ref s.heap.objs.size, _, I1, rfl, ⟨_, x, y, rfl, I.hok.fresh (Nat.le_refl _), rfl, fun l hl => by rw [UL.Inv.sqk_inj I hl hqx]; exact hx, fun l hl => by rw [UL.Inv.sqk_inj I hl hqy]; exact hy⟩, ⟨z'', ?_, ⟨x1, x2, ?_⟩, ?_, ?_⟩, fun c hcm => ?_⟩
    · exact (sb.2 _ D.TIz).trans (hk _ _ D.TIz D.TITO D.TIi1 D.TIi2 hTI)
    · exact (sb.2 _ D.TOz).trans TO'
    · exact st1.1.at fun o q => (sb.2 _ D.zi1.symm).trans q
    · exact st2.1.at fun o q => (sb.2 _ D.zi2.symm).trans q
    · have hlt : c < s.heap.objs.size := by
        have e' : c = z ∨ c = TI ∨ c = TO ∨ c = i1 ∨ c = i2 := by simpa using hcm
        rcases e' with q | q | q | q | q
        · rw [q]; exact hzl
        · rw [q]; exact Heap.lt_size hTI
        · rw [q]; exact Heap.lt_size hTO
        · rw [q]; obtain ⟨_, e1, _⟩ := h1.obj; exact Heap.lt_size e1
        · rw [q]; obtain ⟨_, e2, _⟩ := h2.obj; exact Heap.lt_size e2
      rw [upd_ne (Nat.ne_of_lt hlt)]
      exact (hf c hcm).1
  done := by
    intro X hP hw hK hc i pins s σ H E I hf st hg
    subst hP hw hK
    obtain ⟨hz, hTI, ⟨x0, y0, hTO⟩, h1, h2⟩ := st
    obtain ⟨xs, ys, hqx, hqy, l1, l2, hend⟩ := hg
    obtain ⟨its, rv, p, o1, e1, d1⟩ := UL.Inv.sqk I hqx
    obtain ⟨its2, rv2, p2, o2, e2, d2⟩ := UL.Inv.sqk I hqy
    have hh : X.A.in1.handled = none := I.ok.hd hc
    have m1 := rv.length
    have m2 := rv2.length
    exact wpAny_pyNext_zipD2_end (i := i) D (drawsK k1 hh i1 a (h1.ne o1 e1 d1) its.toArray) (drawsK k2 hh i2 b (h2.ne o2 e2 d2) its2.toArray) hz hTI hTO ⟨h1, p⟩ ⟨h2, p2⟩ (by simp; omega) (by simp; omega)
      (by rcases hend with q | q; exact .inl (by simp; omega); exact .inr (by simp; omega)) fun h' tk hk => ⟨rfl, I.turnedL (t' := tk) (ch := [z, TI, TO, i1, i2]) (fun c o hb q =>
      hk c o (fun q' => hb (by simp [q'])) (fun q' => hb (by simp [q'])) (fun q' => hb (by simp [q'])) (fun q' => hb (by simp [q'])) q) hf⟩
  self := fun A i s Q E st h => wpAny_pyIter_zip st.1 h
def iZipK (K : PySem.W.Frag) (ta : TA) : TI := fun σ H R => ta σ H fun vs H1 => ∃ k1 k2 a b xs ys, vs = [.ref a, .ref b] ∧ SqK K H1 k1 a xs ∧ SqK K H1 k2 b ys ∧ R (ItzK K k1 k2 a b) H1
theorem pi_zipK {X : Cx} {e e2 : Expr} {ta : TA} {p pos tpos : Pos} {elts : List Expr} {kk : Nat} (hg : Gl X "zip") (hm : X.mg "zip" = none) (ha : PA X [e, e2] ta)
    (hs : starEach [e, e2] X.env = (false, eval e X.env) :: starEach [e2] X.env) (hpl : (backTo pos (starEach [e2] X.env)).any (·.1) = false) :
    PI X (.Tuple elts kk tpos) (.Call (.Name "zip" p) [e, e2] [] pos) (iZipK X.K ta) := by
  refine ⟨fun pins s σ H R I h => ?_⟩
  refine PyProof.Rows.Call_ (ld_blt I hg hm PyProof.Rows.boot_zip (PyProof.Rows.callWith_type1 (thn (ha.run pos pins s σ H _ I h) fun us s1 ⟨vs, H1, I1, r1, q1⟩ => ?_) hs hpl))
  obtain ⟨k1, k2, a, b, xs, ys, ex, hqx, hqy, q⟩ := q1
  subst ex
  cases r1 with
  | cons r rr =>
    cases rr with
    | cons r' rr =>
      cases rr
      cases r
      cases r'
      obtain ⟨its, rv, p1, o1, e1, _⟩ := UL.Inv.sqk I1 hqx
      obtain ⟨its2, rv2, p2, o2, e2, _⟩ := UL.Inv.sqk I1 hqy
      have la : a < s1.heap.objs.size := Heap.lt_size e1
      have lb : b < s1.heap.objs.size := Heap.lt_size e2
      have sep : ZipSep2 (s1.heap.objs.size + 4) (s1.heap.objs.size + 2) (s1.heap.objs.size + 3) s1.heap.objs.size (s1.heap.objs.size + 1) [s1.heap.objs.size, a] [s1.heap.objs.size + 1, b] :=
        zip_sep2 (N := s1.heap.objs.size) (fp1 := [a]) (fp2 := [b]) (fun c hc => by
          have e : c = a := by simpa using hc
          rw [e]; exact la) (fun c hc => by
          have e : c = b := by simpa using hc
          rw [e]; exact lb)
      refine zip_begins2 (beginsK k1 a its.toArray) (beginsK k2 b its2.toArray) p1 p2 fun h' hz hTI hTO h1 h2 hsz hk => wpAny_pyIter_zip hz ?_
      have I2 : Inv X pins σ H1 { s1 with heap := h' } := I1.kept (t' := s1.toks) hk
      refine ⟨s1.heap.objs.size + 4, [s1.heap.objs.size + 4, s1.heap.objs.size + 2, s1.heap.objs.size + 3, s1.heap.objs.size, s1.heap.objs.size + 1], _, _, H1, rfl, I2,
        turn_zipK sep, ⟨hz, hTI, ⟨_, _, hTO⟩, ItK.new h1, ItK.new h2⟩, fun c hcm => ?_, q⟩
      have e' : c = s1.heap.objs.size + 4 ∨ c = s1.heap.objs.size + 2 ∨ c = s1.heap.objs.size + 3 ∨ c = s1.heap.objs.size ∨ c = s1.heap.objs.size + 1 := by simpa using hcm
      have hle : s1.heap.objs.size ≤ c := by
        rcases e' with z | z | z | z | z
        · rw [z]; exact Nat.le_add_right _ _
        · rw [z]; exact Nat.le_add_right _ _
        · rw [z]; exact Nat.le_add_right _ _
        · rw [z]; exact Nat.le_refl _
        · rw [z]; exact Nat.le_add_right _ _
      exact I1.fpOk hle (I1.hok.fresh hle)

/-! ### enumerate -/
theorem meets_enum_newB {v : Value} {o : Obj} {H : Heap → Prop} (B : Begins v o H) :
    Meets (Builtin.«enumerate.__new__» ⟨[.type "enumerate", v], []⟩) (fun _ R s => H s.heap ∧
      R (.ok (.ret (.ref (s.heap.push o).objs.size)))
        { s with heap := (s.heap.push o).push { cls := .type "enumerate", data := .fields #[.none, .bool false, .ref s.heap.objs.size, rawInt 0, .none, .none] } }) :=
  .of_wp fun prog w A R s h => by
    obtain ⟨hp, g, d, tk, os⟩ := s; obtain ⟨hl, h⟩ := h
    have hsub := sub_enumerate
    have hf := B.free
    wp_walk using B.iter prog w _ _ _ _ hl
    refine wpAny_stack_any fun st => wpAny_pure ?_
    split
    · rename_i c _ _ _ _ _
      cases (c == Value.type "enumerate")
      · wp_walk using B.iter prog w _ _ _ _ hl
        exact ⟨_, rfl, h⟩
      · wp_walk using B.iter prog w _ _ _ _ hl
        exact ⟨_, rfl, h⟩
    · wp_walk using B.iter prog w _ _ _ _ hl
      exact ⟨_, rfl, h⟩
theorem call_enumK {prog : Program} {w : World} {A : Around} {E : Value → Shared → Prop} {s : Shared} {v : Value} {o : Obj} {H : Heap → Prop} {Q : Value → Shared → Prop} (B : Begins v o H) (h1 : H s.heap)
    (h : ∀ h', IsEnum h' (s.heap.objs.size + 1) s.heap.objs.size 0 .none → h'.get? s.heap.objs.size = some o → h'.objs.size = s.heap.objs.size + 2 →
      (∀ b o, s.heap.get? b = some o → h'.get? b = some o) → Q (.ref (s.heap.objs.size + 1)) { s with heap := h' }) :
    wpAny (model prog w) A (call (.type "enumerate") [v]) Q E s := by
  refine callType_new F.called_enumerate (by decide) (F.typeCall_enumerate_1 _) (F.newCall_enumerate_1 _) (fun obj => F.args_object_init_2 obj _) F.entry_enumerate_new
    (meets_enum_newB B) ⟨h1, ?_⟩
  have hz : (s.heap.push o).objs.size = s.heap.objs.size + 1 := Heap.size_push ..
  show _ ∧ _
  rw [hz]
  have he : IsEnum ((s.heap.push o).push
      { cls := .type "enumerate", data := .fields #[.none, .bool false, .ref s.heap.objs.size, rawInt 0, .none, .none] }) (s.heap.objs.size + 1) s.heap.objs.size 0 .none := by
    have := Heap.get?_push_size (s.heap.push o)
      (o := { cls := .type "enumerate", data := .fields #[.none, .bool false, .ref s.heap.objs.size, rawInt 0, .none, .none] }) rfl
    rw [hz] at this; exact this
  refine ⟨⟨_, he, rfl⟩, h _ he (Heap.get?_push_of_some _ (Heap.get?_push_size _ B.free)) (by rw [Heap.size_push, hz]) fun b o x => Heap.get?_push_of_some _ (Heap.get?_push_of_some _ x)⟩
def IteK (K : PySem.W.Frag) (k1 : Bool) (a : Addr) : It :=
  ⟨fun i H => ∃ (xs : List V) (x : V), SqK K H k1 a xs ∧ xs[i]? = some x,
    fun i H v H' => ∃ T x, v = .ref T ∧ H T = none ∧ H' = upd H T (.tup [.int (i : Nat), x]) ∧ ∀ xs, SqK K H k1 a xs → xs[i]? = some x,
    fun i H => ∃ xs : List V, SqK K H k1 a xs ∧ xs.length = i⟩
theorem turn_enumK {P : Program} {w : World} {K : PySem.W.Frag} {elts : List Expr} {kk : Nat} {tpos : Pos} (k1 : Bool) (a e it : Addr) :
    Turn P w K (.Tuple elts kk tpos) (IteK K k1 a) [e, it] e (fun i h => (∃ old, IsEnum h e it ((i : Nat) : Int) old) ∧ ItK h k1 it a i ∧ e ≠ it) where
  mem := by simp
  obj := fun i h st b hb => by
    obtain ⟨⟨old, he⟩, hi, _⟩ := st
    have e' : b = e ∨ b = it := by simpa using hb
    rcases e' with z | z
    · rw [z]; exact ⟨_, he, fun v q => nomatch q⟩
    · rw [z]; exact hi.obj
  keep := fun i h h' st k => let ⟨⟨old, he⟩, hi, hne⟩ := st; ⟨⟨old, k e (by simp) _ he⟩, hi.at fun o q => k it (by simp) o q, hne⟩
  item := by
    intro X hP hw hK hc i pins s σ H E I hf st hg
    subst hP hw hK
    obtain ⟨⟨old, he⟩, hit, hne⟩ := st
    obtain ⟨xs, x, hq, hx⟩ := hg
    obtain ⟨its, rv, p, o1, e1, d1⟩ := UL.Inv.sqk I hq
    obtain ⟨u, hu, ru⟩ := rv.get hx
    have hel : e < s.heap.objs.size := Heap.lt_size he
    have hil : it < s.heap.objs.size := by obtain ⟨_, q, _⟩ := hit.obj; exact Heap.lt_size q
    have hea : e ≠ a := by
      intro z
      subst z
      rw [he] at e1; cases e1
      exact d1 _ rfl
    have hh : X.A.in1.handled = none := I.ok.hd hc
    refine wpAny_pyNext_enum_itemD (i := i) (drawsK k1 hh it a (hit.ne o1 e1 d1) its.toArray) he ⟨hit, p⟩ (by have := (List.getElem?_eq_some_iff.mp hu).1; simpa using this) hne (by simp [hne, hea]) fun x1 h' tk y1 ho st1 hT hsz hk => ?_
    have ex1 : x1 = u := by
      have q : its.toArray[i]? = some u := by simpa using hu
      rw [q] at y1; exact (Option.some.inj y1).symm
    subst ex1
    refine ⟨_, rfl, wpAny_letOwnedTupleGo_enum (s := { s with heap := h', toks := tk + 1 }) ho fun h'' he' sb => ?_⟩
    have hT2 : h''.get? s.heap.objs.size = some { cls := .type "tuple", data := .seq #[.int i tk, x1] } := (sb.2 _ (Nat.ne_of_gt hel)).trans hT
    have new : ObjOk X.prog X.w (upd H s.heap.objs.size (.tup [.int (i : Nat), x])) h'' s.heap.objs.size (.tup [.int (i : Nat), x]) :=
      ⟨by show 2 ≤ sizeLine; decide, [.int i tk, x1], .cons ⟨_, rfl⟩ (.cons ru .nil), ⟨_, hT2, rfl, _, rfl⟩⟩
    have I1 : Inv X pins σ (upd H s.heap.objs.size (.tup [.int (i : Nat), x])) { s with heap := h'', toks := tk + 1 } :=
      I.turnedNew (t' := tk + 1) (ch := [e, it]) (fun b ob hb q => (sb.2 b (fun z => hb (by simp [z]))).trans (hk b ob (fun z => hb (by simp [z])) (fun z => hb (by simp [z])) q)) hf (Nat.le_refl _) new
    refine ⟨.ref s.heap.objs.size, _, I1, rfl, ⟨_, x, rfl, I.hok.fresh (Nat.le_refl _), rfl, fun ys hy => by rw [UL.Inv.sqk_inj I hy hq]; exact hx⟩, ⟨⟨x1, ?_⟩, st1.1.at fun o q => (sb.2 it (Ne.symm hne)).trans q, hne⟩, fun b hb => ?_⟩
    · have e1 : ((i + 1 : Nat) : Int) = (i : Int) + 1 := by omega
      rw [e1]; exact he'
    · have hb' : b < s.heap.objs.size := by
        have e' : b = e ∨ b = it := by simpa using hb
        rcases e' with z | z
        · rw [z]; exact hel
        · rw [z]; exact hil
      rw [upd_ne (Nat.ne_of_lt hb')]
      exact (hf b hb).1
  done := by
    intro X hP hw hK hc i pins s σ H E I hf st hg
    subst hP hw hK
    obtain ⟨⟨old, he⟩, hit, hne⟩ := st
    obtain ⟨xs, hq, hx⟩ := hg
    obtain ⟨its, rv, p, o1, e1, d1⟩ := UL.Inv.sqk I hq
    obtain ⟨f0, f1, f2, f3, f4, f5⟩ := hf it (by simp)
    have hl := rv.length
    have hh : X.A.in1.handled = none := I.ok.hd hc
    have hi : i = its.toArray.size := by simp; omega
    subst hi
    exact wpAny_pyNext_enum_endD (drawsK k1 hh it a (hit.ne o1 e1 d1) its.toArray) he ⟨hit, p⟩ fun h' eb => ⟨rfl, I.turned (t' := s.toks) (fun b o hb q => eb b o hb q) f0 f1 f3 f4 f5⟩
  self := fun A i s Q E st h => let ⟨⟨_, he⟩, _⟩ := st; wpAny_pyIter_enum he h
def iEnumK (K : PySem.W.Frag) (ta : TA) : TI := fun σ H R => ta σ H fun vs H1 => ∃ k1 a xs, vs = [.ref a] ∧ SqK K H1 k1 a xs ∧ R (IteK K k1 a) H1
theorem pi_enumK {X : Cx} {e : Expr} {ta : TA} {p pos tpos : Pos} {elts : List Expr} {kk : Nat} (hg : Gl X "enumerate") (hm : X.mg "enumerate" = none) (ha : PA X [e] ta) (hs : starEach [e] X.env = [(false, eval e X.env)]) :
    PI X (.Tuple elts kk tpos) (.Call (.Name "enumerate" p) [e] [] pos) (iEnumK X.K ta) := by
  refine ⟨fun pins s σ H R I h => ?_⟩
  refine PyProof.Rows.Call_ (ld_blt I hg hm PyProof.Rows.boot_enumerate (PyProof.Rows.callWith_type1 (thn (ha.run pos pins s σ H _ I h) fun us s1 ⟨vs, H1, I1, r1, q1⟩ => ?_) hs rfl))
  obtain ⟨k1, a, xs, ex, hq, q⟩ := q1
  subst ex
  cases r1 with
  | cons r rr =>
    cases rr
    cases r
    obtain ⟨its, rv, p1, o1, e1, _⟩ := UL.Inv.sqk I1 hq
    refine call_enumK (beginsK k1 a its.toArray) p1 fun h' he hit hsz hk => wpAny_pyIter_enum he ?_
    have I2 : Inv X pins σ H1 { s1 with heap := h' } := I1.kept (t' := s1.toks) hk
    refine ⟨s1.heap.objs.size + 1, [s1.heap.objs.size + 1, s1.heap.objs.size], _, _, H1, rfl, I2, turn_enumK k1 a (s1.heap.objs.size + 1) s1.heap.objs.size, ⟨⟨.none, he⟩, ItK.new hit, Nat.succ_ne_self _⟩, fun b hb => ?_, q⟩
    have e' : b = s1.heap.objs.size + 1 ∨ b = s1.heap.objs.size := by simpa using hb
    have hle : s1.heap.objs.size ≤ b := by
      rcases e' with z | z
      · rw [z]; exact Nat.le_add_right _ _
      · rw [z]; exact Nat.le_refl _
    exact I1.fpOk hle (I1.hok.fresh hle)
end UL
set_option Elab.async false
set_option linter.all false
set_option autoImplicit false
set_option maxRecDepth 100000
set_option maxHeartbeats 4000000
/-! UL6: methods; trees of one's own, what they ask, how they fit the text: expressions. -/
namespace UL
open PySem PySem.Spec L2

/-! ### methods of built-in types -/
inductive Mth where
  | append | pop | popAt | extend | insert | split | join | lindex
  deriving DecidableEq
def Mth.T : Mth → String
  | .split => "str"
  | .join => "str"
  | _ => "list"
def Mth.nm : Mth → Str
  | .append => "append"
  | .pop => "pop"
  | .popAt => "pop"
  | .extend => "extend"
  | .insert => "insert"
  | .split => "split"
  | .join => "join"
  | .lindex => "index"
def Mth.id : Mth → String
  | .append => "list.append"
  | .pop => "list.pop"
  | .popAt => "list.pop"
  | .extend => "list.extend"
  | .insert => "list.insert"
  | .split => "str.split"
  | .join => "str.join"
  | .lindex => "list.index"
def uL (u : U) (G : UH) (k : Addr → List U → Prop) : Prop := match u with
  | .ref a => (match G a with
    | some (.lst us) => k a us
    | _ => False)
  | _ => False
theorem uL_of {K : PySem.W.Frag} {H : Hp} {G : UH} (hg : HR K G H) {u : U} {v : V} (r : RU K H u v) {k : Addr → List U → Prop} (h : uL u G k) :
    ∃ a us xs, v = .ref a ∧ u = .ref a ∧ G a = some (.lst us) ∧ H a = some (.lst xs) ∧ RUs K H us xs ∧ k a us := by
  unfold uL at h
  split at h
  · cases r
    split at h
    · rename_i e
      obtain ⟨xs, h1, r1⟩ := hg.lst e
      exact ⟨_, _, xs, rfl, rfl, e, h1, r1, h⟩
    · exact h.elim
  · exact h.elim
def Mth.fn : Mth → U → UFn
  | .append => fun x us G Q => uL x G fun a xs => match us with
    | [y] => xs.length < sizeLine ∧ Q .non (up G a (.lst (xs ++ [y])))
    | _ => False
  | .pop => fun x us G Q => uL x G fun a xs => match us with
    | [] => (match xs[xs.length - 1]? with
      | some y => Q y (up G a (.lst xs.dropLast))
      | none => False)
    | _ => False
  | .popAt => fun x us G Q => uL x G fun a xs => match us with
    | [.int i] => -(2 ^ 63) ≤ i ∧ i < 2 ^ 63 ∧ (match ixN xs.length i with
      | some k => (match xs[k]? with
        | some y => Q y (up G a (.lst (xs.eraseIdx k)))
        | none => False)
      | none => False)
    | _ => False
  | .extend => fun x us G Q => uL x G fun a xs => match us with
    | [y] => uL y G fun _ zs => xs.length + zs.length ≤ sizeLine ∧ Q .non (up G a (.lst (xs ++ zs)))
    | _ => False
  | .insert => fun x us G Q => uL x G fun a xs => match us with
    | [.int i, y] => xs.length < sizeLine ∧ 0 ≤ i ∧ i < 2 ^ 63 ∧ Q .non (up G a (.lst (xs.take i.toNat ++ [y] ++ xs.drop i.toNat)))
    | _ => False
  | .split => fun x us G Q => match x, us with
    | .str a, [.str b] => (b.length == 0) = false ∧ a.length + 2 ≤ sizeLine ∧ ∀ p, G p = none → Q (.ref p) (up G p (.lst ((Txt.split a b).map U.str)))
    | _, _ => False
  | .join => fun x us G Q => match x, us with
    | .str a, [y] => uL y G fun _ zs => (match strsOf zs with
      | some ys => (ys.map (·.length)).sum + ys.length * a.length ≤ 16777216 ∧ Q (.str (Txt.join a ys)) G
      | none => False)
    | _, _ => False
  | .lindex => fun x us G Q => uL x G fun _ xs => match us with
    | [y] => flatU y = true ∧ xs.all flatU = true ∧ ∃ (j : Nat) (z : U), xs[j]? = some z ∧ eqU z y = true ∧ (∀ (m : Nat) (z' : U), m < j → xs[m]? = some z' → eqU z' y = false) ∧ Q (.int (j : Nat)) G
    | _ => False
def mTy (T : String) (u : U) (G : UH) : Prop := match u with
  | .str _ => T = "str"
  | .ref a => (match G a with
    | some (.lst _) => T = "list"
    | some (.dK _) => T = "dict"
    | _ => False)
  | _ => False
section
variable {X : Cx}
theorem mTy_of {H : Hp} {G : UH} (hg : HR X.K G H) {u : U} {v : V} {T : String} (r : RU X.K H u v) (h : mTy T u G) : tyV X.K T v H := by
  unfold mTy at h
  split at h
  · cases r; exact h
  · cases r
    split at h
    · rename_i e
      obtain ⟨xs, h1, _⟩ := hg.lst e
      exact .inl ⟨h, xs, SqL.of h1⟩
    · rename_i e
      obtain ⟨xs, h1, _⟩ := hg _ _ e
      exact .inr (.inr (.inl ⟨h, .inl ⟨xs, h1⟩⟩))
    · exact h.elim
  · exact h.elim
theorem rus0 {K : PySem.W.Frag} {H : Hp} {xs : List V} (r : RUs K H [] xs) : xs = [] := by cases r; rfl
theorem Mth.ok (m : Mth) : MtR X m.id (cM X.K m.fn) := by
  intro pins s σ H x xs v us Q I rx rs h
  obtain ⟨u, ws, G, Q0, ru, rw', hg, h, k⟩ := h
  cases m with
  | append =>
    obtain ⟨a, ls, ys, rfl, rfl, e, h1, r1, h⟩ := uL_of hg ru h
    split at h
    · obtain ⟨y, rfl, q⟩ := rus1 rw'
      obtain ⟨e2, g⟩ := hg.setLst e (r1.append (.cons q .nil))
      exact mt_append pins s σ H _ _ v us Q I rx rs ⟨a, ys, y, rfl, rfl, h1, by rw [← r1.length]; exact h.1, k _ _ _ _ h.2 .non g e2⟩
    · exact h.elim
  | pop =>
    obtain ⟨a, ls, ys, rfl, rfl, e, h1, r1, h⟩ := uL_of hg ru h
    split at h
    · cases rus0 rw'
      split at h
      · rename_i y hy
        obtain ⟨z, hz, q⟩ := r1.get hy
        obtain ⟨e2, g⟩ := hg.setLst e r1.dropLast
        exact mt_pop pins s σ H _ _ v us Q I rx rs ⟨a, ys, z, rfl, rfl, h1, by rw [← r1.length]; exact hz, k _ _ _ _ h (RU.ext e2 q) g e2⟩
      · exact h.elim
    · exact h.elim
  | popAt =>
    obtain ⟨a, ls, ys, rfl, rfl, e, h1, r1, h⟩ := uL_of hg ru h
    split at h
    · obtain ⟨y, rfl, q⟩ := rus1 rw'
      cases q
      obtain ⟨b1, b2, h⟩ := h
      split at h
      · rename_i kk hk
        split at h
        · rename_i y hy
          obtain ⟨z, hz, q⟩ := r1.get hy
          obtain ⟨e2, g⟩ := hg.setLst e (r1.eraseIdx kk)
          exact mt_popAt pins s σ H _ _ v us Q I rx rs ⟨a, ys, _, kk, z, rfl, rfl, h1, b1, b2, by rw [← r1.length]; exact (ixN_seq hk).1, hz, k _ _ _ _ h (RU.ext e2 q) g e2⟩
        · exact h.elim
      · exact h.elim
    · exact h.elim
  | extend =>
    obtain ⟨a, ls, ys, rfl, rfl, e, h1, r1, h⟩ := uL_of hg ru h
    split at h
    · obtain ⟨y, rfl, q⟩ := rus1 rw'
      obtain ⟨b, ls2, ys2, rfl, rfl, e', h1', r1', h⟩ := uL_of hg q h
      obtain ⟨e2, g⟩ := hg.setLst e (r1.append r1')
      exact mt_extend pins s σ H _ _ v us Q I rx rs ⟨a, b, ys, ys2, rfl, rfl, h1, h1', by rw [← r1.length, ← r1'.length]; exact h.1, k _ _ _ _ h.2 .non g e2⟩
    · exact h.elim
  | insert =>
    obtain ⟨a, ls, ys, rfl, rfl, e, h1, r1, h⟩ := uL_of hg ru h
    split at h
    · rename_i i yy _
      obtain ⟨y, z, rfl, q1, q2⟩ := rus2 rw'
      cases q1
      obtain ⟨b1, b2, b3, h⟩ := h
      obtain ⟨e2, g⟩ := hg.setLst e (((r1.take i.toNat).append (.cons q2 .nil)).append (r1.drop i.toNat))
      exact mt_insert pins s σ H _ _ v us Q I rx rs ⟨a, ys, i, z, rfl, rfl, h1, by rw [← r1.length]; exact b1, b2, b3, k _ _ _ _ h .non g e2⟩
    · exact h.elim
  | split =>
    simp only [Mth.fn] at h
    split at h
    · cases ru
      obtain ⟨y, rfl, q⟩ := rus1 rw'
      cases q
      refine mt_split pins s σ H _ _ v us Q I rx rs ⟨_, _, rfl, rfl, h.1, h.2.1, fun p hp => ?_⟩
      obtain ⟨e, g⟩ := hg.newLst hp (RUs.of_strs _)
      exact k _ _ _ _ (h.2.2 p (hg.fresh hp)) (.ref p) g e
    · exact h.elim
  | join =>
    simp only [Mth.fn] at h
    split at h
    · cases ru
      obtain ⟨y, rfl, q⟩ := rus1 rw'
      obtain ⟨b, ls2, ys2, rfl, rfl, e', h1', r1', h⟩ := uL_of hg q h
      split at h
      · rename_i ss hs
        have e3 := strsOf_eq hs
        subst e3
        have e4 := RUs.strs r1'
        subst e4
        exact mt_join pins s σ H _ _ v us Q I rx rs ⟨_, b, ss, rfl, rfl, .inl (SqL.of h1'), h.1, k _ _ _ _ h.2 (.str _) hg .refl⟩
      · exact h.elim
    · exact h.elim
  | lindex =>
    obtain ⟨a, ls, ys, rfl, rfl, e, h1, r1, h⟩ := uL_of hg ru h
    split at h
    · rename_i y0
      obtain ⟨y, rfl, q⟩ := rus1 rw'
      obtain ⟨f1, f2, j, z, hz, e1, hno, h⟩ := h
      obtain ⟨z', hz', qz⟩ := r1.get hz
      have fz : ∀ {w : U} {m : Nat}, ls[m]? = some w → flatU w = true := fun {w m} hw => List.all_eq_true.mp f2 w (List.mem_of_getElem? hw)
      refine mt_index pins s σ H _ _ v us Q I rx rs ⟨a, ys, y, j, z', rfl, rfl, SqL.of h1, flat_of q f1, flats_of r1 f2, hz', by rw [eqU_of' qz q (fz hz) f1]; exact e1, fun m w hm hw => ?_, k _ _ _ _ h (.int _) hg .refl⟩
      obtain ⟨w', hw', qw⟩ := r1.get' hw
      rw [eqU_of' qw q (fz hw') f1]
      exact hno m w' hm hw'
    · exact h.elim
theorem Mth.pa (m : Mth) : PlainAttrs m.T := by
  cases m <;> first | exact PySem.F.plainAttrs_list | exact PySem.F.plainAttrs_str
theorem Mth.slot (m : Mth) : Slot m.T m.nm m.id := by
  cases m with
  | append => exact PySem.F.slot_list_append
  | pop => exact PySem.F.slot_list_pop
  | popAt => exact PySem.F.slot_list_pop
  | extend => exact PySem.F.slot_list_extend
  | insert => exact PySem.F.slot_list_insert
  | split => exact PySem.F.slot_str_split
  | join => exact PySem.F.slot_str_join
  | lindex => exact PySem.F.slot_list_index
theorem Mth.hty (m : Mth) : typeOf (.builtin m.id) = pure (.type "method_descriptor") := by
  cases m with
  | append => exact PySem.F.type_list_append
  | pop => exact PySem.F.type_list_pop
  | popAt => exact PySem.F.type_list_pop
  | extend => exact PySem.F.type_list_extend
  | insert => exact PySem.F.type_list_insert
  | split => exact PySem.F.type_str_split
  | join => exact PySem.F.type_str_join
  | lindex => exact PySem.F.type_list_index
end
end UL
set_option Elab.async false
set_option linter.all false
set_option autoImplicit false
set_option maxRecDepth 100000
set_option maxHeartbeats 4000000
/-! ULm: max(xs, default=d) of whole numbers. -/
namespace UL
open PySem PySem.Spec L2
def maxL (d : Int) : List Int → Int
  | [] => d
  | n :: ns => ns.foldl max n
theorem alike_ints (ns : List Int) : PySem.W.AlikeAll (ns.map PyData.int) := by
  refine ⟨fun x hx y hy => ?_, fun x hx => ?_⟩
  · obtain ⟨a, _, rfl⟩ := List.mem_map.mp hx
    obtain ⟨b, _, rfl⟩ := List.mem_map.mp hy
    rfl
  · obtain ⟨a, _, rfl⟩ := List.mem_map.mp hx
    intro z
    cases z
theorem depth_ints : ∀ ns : List Int, PyData.depthAll (ns.map PyData.int) = 0
  | [] => rfl
  | n :: ns => by simp [PyData.depthAll, PyData.depth, depth_ints ns]
section
variable {X : Cx}
theorem run_maxD (hc : X.calm = true) (hu : X.A.units + 64 < cLine) {pins : List (Addr × Obj)} {σ : L2.St} {H : Hp} {s : Shared} {Q : VK} {a : Addr} {ns : List Int} {d : Int} {t : Tok} (I : Inv X pins σ H s) (hs : SqL X.K H a (ns.map V.int)) (q : Q (.int (maxL d ns)) H) :
    wpAny (model X.prog X.w) X.A (call (.builtin "max") [.ref a] [(Str.ofString "default", .int d t)]) (EP X pins σ Q) X.xe s := by
  obtain ⟨its, rv, hl, _⟩ := I.list hs
  have hi := rv.ints
  refine PySem.W.max_list_default (vs := its.toArray) (xs := ns.map PyData.int) (as := []) (I.ok.hd hc) hl.isList (by simpa using PyProof.Rows.ints_readAll s.heap hi) (alike_ints ns) (by rw [depth_ints]; omega) (fun e h' tk hk => ?_) (fun y ys i v h' tk bs e hv r hk => ?_)
  · cases ns with
    | nil => exact ⟨.int d, H, I.kept hk, ⟨_, rfl⟩, q⟩
    | cons _ _ => cases e
  · cases ns with
    | nil => cases e
    | cons n ns =>
      rw [List.map_cons, List.cons.injEq] at e
      obtain ⟨rfl, rfl⟩ := e
      rw [PySem.W.maxD_ints] at r
      cases r
      exact ⟨.int _, H, I.kept hk, ⟨_, rfl⟩, q⟩
def tMaxD (te tc : TE) : TE := fun σ H Q => te σ H fun v H1 => tc σ H1 fun u H2 => ∃ (a : Addr) (ns : List Int) (d : Int), v = .ref a ∧ u = .int d ∧ SqL X.K H2 a (ns.map V.int) ∧ Q (.int (maxL d ns)) H2
theorem pe_maxD {x : Str} {p pos kp : Pos} {e c : Expr} {te tc : TE} (hc : X.calm = true) (hu : X.A.units + 64 < cLine) (hg : Gl X x) (hm : X.mg x = none) (hx : x = "max") (he : PE X e te) (hd : PE X c tc) (hst : starEach [e] X.env = (false, eval e X.env) :: starEach [] X.env) :
    PE X (.Call (.Name x p) [e] [⟨some (Str.ofString "default"), c, kp⟩] pos) (tMaxD (X := X) te tc) := by
  subst hx
  refine ⟨fun pins s σ H Q I h => ?_⟩
  refine wpAny_Call_Name_kw (ld_blt (u := .builtin "max") I hg hm (by decide +kernel) ?_ (by decide) (by decide))
  have ha := (pa_cons he pa_nil hst).run pos pins s σ H (fun vs H1 => match vs with
    | [v] => tc σ H1 fun u H2 => ∃ (a : Addr) (ns : List Int) (d : Int), v = .ref a ∧ u = .int d ∧ SqL X.K H2 a (ns.map V.int) ∧ Q (.int (maxL d ns)) H2
    | _ => False) I h
  refine PyProof.Rows.callWith_kw (e := e) (rest := []) (thn ha fun us s1 ⟨vs, H1, I1, r1, q1⟩ => ?_) (by rw [hst]; rfl) (by rw [hst]; rfl)
  cases vs with
  | nil => exact False.elim q1
  | cons v vs =>
    cases vs with
    | cons _ _ => exact False.elim q1
    | nil =>
      obtain ⟨u, rfl, ru⟩ := r1.one
      refine thn ((pk_cons (nm := some (Str.ofString "default")) (kpos := kp) hd pk_nil).run pos pins s1 σ H1 (fun zs H2 => match zs with
        | [z] => ∃ (a : Addr) (ns : List Int) (d : Int), v = .ref a ∧ z = .int d ∧ SqL X.K H2 a (ns.map V.int) ∧ Q (.int (maxL d ns)) H2
        | _ => False) I1 q1) fun ws s2 ⟨zs, H2, I2, r2, q2⟩ => ?_
      cases zs with
      | nil => exact False.elim q2
      | cons z zs =>
        cases zs with
        | cons _ _ => exact False.elim q2
        | nil =>
          obtain ⟨w2, rfl, rw2⟩ := r2.one
          obtain ⟨a, ns, d, rfl, rfl, hs, q3⟩ := q2
          cases ru
          obtain ⟨t, rfl⟩ := rw2
          exact run_maxD hc hu I2 hs q3
end
theorem maxD_sq {K : PySem.W.Frag} {H : Hp} {us : List U} {xs : List V} {ns : List Int} {a : Addr} (h : H a = some (.lst xs)) (r : RUs K H us xs) (e : intsOf us = some ns) : SqL K H a (ns.map V.int) := by
  have e3 := intsOf_eq e
  subst e3
  have e4 := RUs.ints r
  subst e4
  exact SqL.of h
/-! by values -/
def uMaxD (u d : U) (G : UH) (Q : UK) : Prop := match u, d with
  | .ref a, .int d => (match G a with
    | some (.lst us) => (match intsOf us with
      | some ns => Q (.int (maxL d ns)) G
      | none => False)
    | _ => False)
  | _, _ => False
end UL
set_option Elab.async false
set_option linter.all false
set_option autoImplicit false
set_option maxRecDepth 100000
set_option maxHeartbeats 4000000
/-! UL7: trees of one's own for expressions: what they ask (tr), how they fit the text (chk), soundness. -/
namespace UL
open PySem PySem.Spec L2

mutual
inductive Tg
  | nm (i : Nat)
  | tup (ts : Tgs)
inductive Tgs
  | nil
  | cons (t : Tg) (ts : Tgs)
end
mutual
inductive Ex
  | var (i : Nat) | int (i : Int) | bl (b : Bool) | non | str (x : Str) | gl (i : Nat) | ty (n : String)
  | bin (op : Operator) (a b : Ex) | neg (a : Ex) | not (a : Ex)
  | cmp (op : CmpOp) (a b : Ex) | chain (o1 o2 : CmpOp) (a b c : Ex)
  | and (a b : Ex) | or (a b : Ex) | ife (c a b : Ex)
  | tup (es : Exs) | lst (es : Exs)
  | call (f : Nat) (es : Exs) | blt (b : Blt) (es : Exs) | mth (m : Mth) (o : Ex) (es : Exs)
  | ix (o i : Ex) | sl (o : Ex) (lo hi : Exo) | stp (o c : Ex) | maxd (e c : Ex)
  | lc (elt : Ex) (tg : Tg) (it : Ito) (c : Exo)
  | lc2 (elt : Ex) (tg : Tg) (it : Ito) (c : Exo) (tg1 : Tg) (it1 : Ito) (c1 : Exo)
inductive Exs
  | nil
  | cons (e : Ex) (es : Exs)
inductive Exo
  | no
  | yes (e : Ex)
inductive Ito
  | rng1 (a : Ex) | rng2 (a b : Ex) | rng3 (a b c : Ex) | val (e : Ex) | enum (e : Ex) | zip (a b : Ex)
end

/-! ### what is raised; a def's promise -/
abbrev UXn := Nat × List U
abbrev UW := UXn → USt → UH → Prop
abbrev USp := List U → UH → UK → (UXn → UH → Prop) → Prop
structure Tab where
  fns : List Str
  gls : List Str
  xcs : List (Str × List Str)
structure Gam where
  fn : Nat → USp
  gl : Nat → U
def XnR (K : PySem.W.Frag) (mg : Str → Option Value) (tb : Tab) (xn : UXn) (cls : Value) (d : Option Addr) (H : Hp) : Prop :=
  ∃ (x : Str) (fs : List Str) (C dx : Addr) (vs : List V), tb.xcs[xn.1]? = some (x, fs) ∧ mg x = some (.ref C) ∧ cls = .ref C ∧ d = some dx ∧ H dx = some (.xd (fs.zip vs)) ∧ fs.length = vs.length ∧ RUs K H xn.2 vs
def cW (K : PySem.W.Frag) (mg : Str → Option Value) (tb : Tab) (W : UW) : WX := fun cls d σ H => ∃ xn s G, SR K H s σ ∧ HR K G H ∧ XnR K mg tb xn cls d H ∧ W xn s G
def cSp (K : PySem.W.Frag) (mg : Str → Option Value) (tb : Tab) (sp : USp) : Sp := fun vs H Q E => ∃ us G Q0 E0, RUs K H us vs ∧ HR K G H ∧ sp us G Q0 E0 ∧
  (∀ u G' v H', Q0 u G' → RU K H' u v → HR K G' H' → Ext H H' → Q v H') ∧ ∀ xn G' cls d H', E0 xn G' → XnR K mg tb xn cls d H' → HR K G' H' → Ext H H' → E cls d H'
def bltNames : List Str := ["len", "abs", "max", "min", "int", "str", "ord", "sum", "sorted", "tuple", "list", "all", "any", "divmod", "isinstance", "range", "enumerate", "zip", "bool", "dict", "NoneType", "reversed", "set"]
def visB (sc : Scope) (x : Str) : Bool := decide (sc.names.lookup x = some .local) || decide (sc.names.lookup x = some .cell) || decide (sc.names.lookup x = some .free)
def locB (sc : Scope) (x : Str) : Bool := decide (sc.names.lookup x = some .local) || decide (sc.names.lookup x = some .cell)
def glB (sc : Scope) (x : Str) : Bool := decide (sc.names.lookup x = some .globalImplicit)
/-- the scope as the text has it, and as it runs -/
structure ScOk (X : Cx) (sc : Scope) : Prop where
  vis : ∀ x, visB sc x = true → Vis X.env.scope x
  loc : ∀ x, locB sc x = true → Loc X.env.scope x ∧ (X.fn x = true ∨ X.env.scope.names.lookup x = some .local)
  gl : ∀ x, glB sc x = true → Gl X x
  cf : ∀ x, (sc.names.lookup x = some .cell ∨ sc.names.lookup x = some .free) → (X.env.scope.names.lookup x = some .cell ∨ X.env.scope.names.lookup x = some .free)
structure FnAvail (X : Cx) (x : Str) (sp : Sp) : Prop where
  ex : ∃ (k : Nat) (f : Addr) (fd : FuncData) (ps : List Str), X.mg x = some (.ref f) ∧ PySem.W.keepIn X.K (.ref f) = true ∧ Room k X.A ∧ Binds X.K fd ps [] ∧ FnOk X.prog X.w X.K X.mg X.base (CX X.prog X.w) k f fd ps sp
  db : (x == ("__debug__" : Str)) = false
structure CtxOk (X : Cx) (sc : Scope) (tb : Tab) (Γ : Gam) : Prop where
  sco : ScOk X sc
  nd : X.N.Nodup
  calm : X.calm = true
  hu : X.A.units + 64 < cLine
  fns : ∀ i x, tb.fns[i]? = some x → FnAvail X x (cSp X.K X.mg tb (Γ.fn i))
  gls : ∀ i x, tb.gls[i]? = some x → ∃ w v, X.mg x = some w ∧ RelV v w ∧ (∀ H, RU X.K H (Γ.gl i) v) ∧ (x == ("__debug__" : Str)) = false
  blt : ∀ x ∈ bltNames, X.mg x = none

/-! ### what a tree asks -/
mutual
def trG : Tg → U → USt → UH → (USt → UH → Prop) → Prop
  | .nm i => fun u s G Q => Q (setS s i (some u)) G
  | .tup ts => fun u s G Q => match u with
    | .tup us => us.length = lenG ts ∧ trGs ts us s G Q
    | .ref a => (match G a with
      | some (.lst us) => us.length = lenG ts ∧ trGs ts us s G Q
      | _ => False)
    | _ => False
def trGs : Tgs → List U → USt → UH → (USt → UH → Prop) → Prop
  | .nil => fun us s G Q => us = [] ∧ Q s G
  | .cons t ts => fun us s G Q => match us with
    | u :: us => trG t u s G fun s1 G1 => trGs ts us s1 G1 Q
    | [] => False
def lenG : Tgs → Nat
  | .nil => 0
  | .cons _ ts => lenG ts + 1
end
def rangeU (lo c : Int) : Nat → List U
  | 0 => []
  | n + 1 => .int lo :: rangeU (lo + c) c n
def enumU (i : Nat) : List U → List U
  | [] => []
  | u :: us => .tup [.int (i : Int), u] :: enumU (i + 1) us
def zipU : List U → List U → List U
  | u :: us, w :: ws => .tup [u, w] :: zipU us ws
  | _, _ => []
abbrev Deps := List (Addr × List U)
def depsOk (G : UH) : Deps → Prop
  | [] => True
  | d :: ds => G d.1 = some (.lst d.2) ∧ depsOk G ds
def seqOf (u : U) (G : UH) (k : Deps → List U → Prop) : Prop := match u with
  | .tup us => k [] us
  | .rol us => k [] us
  | .ref a => (match G a with
    | some (.lst us) => k [(a, us)] us
    | _ => False)
  | _ => False
/-- the length of a range -/
def rlen (i j c : Int) : Nat := ((j - i + c - 1) / c).toNat
def small62 (i : Int) : Prop := -(2 ^ 60) ≤ i ∧ i < 2 ^ 60
/-- a comprehension's turns -/
def lcU (ds : Deps) (p : Addr) (g : U → (USt → UH → Prop) → UH → Prop) (tt : USt → UH → (Bool → UH → Prop) → Prop) (te : USt → UH → UK → Prop) (Q : UK) : List U → List U → UH → Prop
  | [], acc, G => depsOk G ds ∧ G p = some (.lst acc) ∧ Q (.ref p) G
  | y :: ys, acc, G => depsOk G ds ∧ G p = some (.lst acc) ∧ g y (fun s1 G1 => tt s1 G1 fun b G2 => if b = true then te s1 G2 fun u G3 => G3 p = some (.lst acc) ∧ acc.length < sizeLine ∧
      (∃ G4, Le G4 (up G3 p (.lst (acc ++ [u]))) ∧ lcU ds p g tt te Q ys (acc ++ [u]) G4) else ∃ G4, Le G4 G2 ∧ lcU ds p g tt te Q ys acc G4) G
/-- the turns of an inner loop: the list goes on -/
def lcK (ds : Deps) (p : Addr) (g : U → (USt → UH → Prop) → UH → Prop) (tt : USt → UH → (Bool → UH → Prop) → Prop) (te : USt → UH → UK → Prop) (K : List U → UH → Prop) : List U → List U → UH → Prop
  | [], acc, G => depsOk G ds ∧ G p = some (.lst acc) ∧ K acc G
  | y :: ys, acc, G => depsOk G ds ∧ G p = some (.lst acc) ∧ g y (fun s1 G1 => tt s1 G1 fun b G2 => if b = true then te s1 G2 fun u G3 => G3 p = some (.lst acc) ∧ acc.length < sizeLine ∧
      (∃ G4, Le G4 (up G3 p (.lst (acc ++ [u]))) ∧ lcK ds p g tt te K ys (acc ++ [u]) G4) else ∃ G4, Le G4 G2 ∧ lcK ds p g tt te K ys acc G4) G
def lc2U (ds : Deps) (p : Addr) (g : U → (USt → UH → Prop) → UH → Prop) (tt : USt → UH → (Bool → UH → Prop) → Prop) (inner : USt → UH → List U → (List U → UH → Prop) → Prop) (Q : UK) : List U → List U → UH → Prop
  | [], acc, G => depsOk G ds ∧ G p = some (.lst acc) ∧ Q (.ref p) G
  | y :: ys, acc, G => depsOk G ds ∧ G p = some (.lst acc) ∧ g y (fun s1 G1 => tt s1 G1 fun b G2 => if b = true then inner s1 G2 acc (fun acc' G3 => ∃ G4, Le G4 G3 ∧ lc2U ds p g tt inner Q ys acc' G4)
      else ∃ G4, Le G4 G2 ∧ lc2U ds p g tt inner Q ys acc G4) G
mutual
def slotsG : Tg → List Nat
  | .nm i => [i]
  | .tup ts => slotsGs ts
def slotsGs : Tgs → List Nat
  | .nil => []
  | .cons t ts => slotsG t ++ slotsGs ts
end
def wipeU (s : USt) : List Nat → USt
  | [] => s
  | v :: vs => setS (wipeU s vs) v none
/-- a value whose truth is asked when it is there -/
def pl (t : UT) : UT × UTT := (t, fun s G Q => t s G fun x G1 => uTru x G1 Q)
mutual
def trX (Γ : Gam) (W : UW) : Ex → UT × UTT
  | .var i => pl (uVar i)
  | .int i => pl (uC (.int i))
  | .bl b => pl (uC (.bl b))
  | .non => pl (uC .non)
  | .str x => pl (uC (.str x))
  | .gl i => pl (uC (Γ.gl i))
  | .ty n => pl (uC (.ty n))
  | .bin op a b => pl (uBin (uOp op) (trX Γ W a).1 (trX Γ W b).1)
  | .neg a => pl (uUn uNeg (trX Γ W a).1)
  | .not a => (fun s G Q => (trX Γ W a).1 s G fun x G1 => uTru x G1 fun b G2 => Q (.bl (!b)) G2, fun s G Q => (trX Γ W a).2 s G fun b G1 => Q (!b) G1)
  | .cmp op a b => (uBin (uCmp op) (trX Γ W a).1 (trX Γ W b).1, fun s G Q => (trX Γ W a).1 s G fun x G1 => (trX Γ W b).1 s G1 fun y G2 => uCmp op x y G2 fun z G3 => match z with
    | .bl k => Q k G3
    | _ => False)
  | .chain o1 o2 a b c => (fun s G Q => (trX Γ W a).1 s G fun x G1 => (trX Γ W b).1 s G1 fun y G2 => uCmp o1 x y G2 fun z G3 => match z with
    | .bl k => if k = true then (trX Γ W c).1 s G3 fun w G4 => uCmp o2 y w G4 Q else Q (.bl false) G3
    | _ => False, fun s G Q => (trX Γ W a).1 s G fun x G1 => (trX Γ W b).1 s G1 fun y G2 => uCmp o1 x y G2 fun z G3 => match z with
    | .bl k => if k = true then (trX Γ W c).1 s G3 fun w G4 => uCmp o2 y w G4 fun z2 G5 => (match z2 with
        | .bl k2 => Q k2 G5
        | _ => False) else Q false G3
    | _ => False)
  | .and a b => (fun s G Q => (trX Γ W a).1 s G fun x G1 => uTru x G1 fun k G2 => if k = true then (trX Γ W b).1 s G2 Q else Q x G2,
    fun s G Q => (trX Γ W a).2 s G fun k G1 => if k = true then (trX Γ W b).2 s G1 Q else Q false G1)
  | .or a b => (fun s G Q => (trX Γ W a).1 s G fun x G1 => uTru x G1 fun k G2 => if k = true then Q x G2 else (trX Γ W b).1 s G2 Q,
    fun s G Q => (trX Γ W a).2 s G fun k G1 => if k = true then Q true G1 else (trX Γ W b).2 s G1 Q)
  | .ife c a b => (fun s G Q => (trX Γ W c).2 s G fun k G1 => if k = true then (trX Γ W a).1 s G1 Q else (trX Γ W b).1 s G1 Q, fun _ _ _ => False)
  | .tup es => pl fun s G Q => trA Γ W es s G fun us G1 => us.length ≤ sizeLine ∧ Q (.tup us) G1
  | .lst es => pl fun s G Q => trA Γ W es s G fun us G1 => us.length ≤ sizeLine ∧ ∀ p, G1 p = none → Q (.ref p) (up G1 p (.lst us))
  | .call f es => pl fun s G Q => trA Γ W es s G fun us G1 => Γ.fn f us G1 Q (fun xn G2 => W xn s G2)
  | .blt b es => pl fun s G Q => trA Γ W es s G fun us G1 => b.fn us G1 Q
  | .mth m o es => pl fun s G Q => (trX Γ W o).1 s G fun x G1 => mTy m.T x G1 ∧ trA Γ W es s G1 fun us G2 => m.fn x us G2 Q
  | .ix o i => pl (uBin uIx (trX Γ W o).1 (trX Γ W i).1)
  | .sl o lo hi => pl fun s G Q => (trX Γ W o).1 s G fun x G1 => trO Γ W lo s G1 fun l G2 => trO Γ W hi s G2 fun h G3 => uSl x l h G3 Q
  | .stp o c => pl (uBin uStp (trX Γ W o).1 (trX Γ W c).1)
  | .maxd e c => pl fun s G Q => (trX Γ W e).1 s G fun x G1 => (trX Γ W c).1 s G1 fun d G2 => uMaxD x d G2 Q
  | .lc2 elt tg it c tg1 it1 c1 => pl fun s G Q => trI Γ W it s G fun ds ys G1 => ∀ p, G1 p = none →
      lc2U ds p (fun y k G2 => trG tg y (wipeU s (slotsG tg ++ slotsG tg1)) G2 k) (trC Γ (fun _ _ _ => False) c)
        (fun s1 G2 acc K => trI Γ (fun _ _ _ => False) it1 s1 G2 fun ds1 zs G3 => lcK ds1 p (fun z k G4 => trG tg1 z (wipeU s1 (slotsG tg1)) G4 k) (trC Γ (fun _ _ _ => False) c1) (trX Γ (fun _ _ _ => False) elt).1 K zs acc G3) Q ys [] (up G1 p (.lst []))
  | .lc elt tg it c => pl fun s G Q => trI Γ W it s G fun ds ys G1 => ∀ p, G1 p = none →
      lcU ds p (fun y k G2 => trG tg y (wipeU s (slotsG tg)) G2 k) (trC Γ (fun _ _ _ => False) c) (trX Γ (fun _ _ _ => False) elt).1 Q ys [] (up G1 p (.lst []))
def trA (Γ : Gam) (W : UW) : Exs → UTA
  | .nil => fun _ G Q => Q [] G
  | .cons e es => fun s G Q => (trX Γ W e).1 s G fun u G1 => trA Γ W es s G1 fun us G2 => Q (u :: us) G2
def trO (Γ : Gam) (W : UW) : Exo → USt → UH → (Option Int → UH → Prop) → Prop
  | .no => fun _ G Q => Q none G
  | .yes e => fun s G Q => (trX Γ W e).1 s G fun u G1 => match u with
    | .int i => Q (some i) G1
    | _ => False
def trC (Γ : Gam) (W : UW) : Exo → UTT
  | .no => fun _ G Q => Q true G
  | .yes e => (trX Γ W e).2
def trI (Γ : Gam) (W : UW) : Ito → USt → UH → (Deps → List U → UH → Prop) → Prop
  | .rng1 a => fun s G R => (trX Γ W a).1 s G fun x G1 => match x with
    | .int j => small62 j ∧ R [] (rangeU 0 1 j.toNat) G1
    | _ => False
  | .rng2 a b => fun s G R => (trX Γ W a).1 s G fun x G1 => (trX Γ W b).1 s G1 fun y G2 => match x, y with
    | .int i, .int j => small62 i ∧ small62 j ∧ R [] (rangeU i 1 (j - i).toNat) G2
    | _, _ => False
  | .rng3 a b c => fun s G R => (trX Γ W a).1 s G fun x G1 => (trX Γ W b).1 s G1 fun y G2 => (trX Γ W c).1 s G2 fun z G3 => match x, y, z with
    | .int i, .int j, .int c => small62 i ∧ small62 j ∧ 0 < c ∧ c < 1073741824 ∧ R [] (rangeU i c (rlen i j c)) G3
    | _, _, _ => False
  | .val e => fun s G R => (trX Γ W e).1 s G fun x G1 => match x with
    | .str z => R [] (z.cps.toList.map fun c => U.str ⟨#[c]⟩) G1
    | x => seqOf x G1 fun ds us => R ds us G1
  | .enum e => fun s G R => (trX Γ W e).1 s G fun x G1 => seqOf x G1 fun ds us => R ds (enumU 0 us) G1
  | .zip a b => fun s G R => (trX Γ W a).1 s G fun x G1 => (trX Γ W b).1 s G1 fun y G2 => seqOf x G2 fun ds us => seqOf y G2 fun es ws => R (ds ++ es) (zipU us ws) G2
end
def trE (Γ : Gam) (W : UW) (e : Ex) : UT := (trX Γ W e).1
def trT (Γ : Gam) (W : UW) (e : Ex) : UTT := (trX Γ W e).2
example {Γ : Gam} {W : UW} {i : Nat} : trE Γ W (.var i) = uVar i := rfl
example {Γ : Gam} {W : UW} {a b c : Ex} : trE Γ W (.ife a b c) = fun s G Q => trT Γ W a s G fun k G1 => if k = true then trE Γ W b s G1 Q else trE Γ W c s G1 Q := rfl
end UL
set_option Elab.async false
set_option linter.all false
set_option autoImplicit false
set_option maxRecDepth 100000
set_option maxHeartbeats 4000000
/-! UL8: a tree fits the text: expressions. -/
namespace UL
open PySem PySem.Spec L2
def notStar : Expr → Bool
  | .Starred _ _ => false
  | _ => true
def notSet : Expr → Bool
  | .Set _ _ _ => false
  | _ => true
def plainT : Expr → Bool
  | .UnaryOp op _ _ => decide (op ≠ .Not)
  | .BoolOp _ _ _ => false
  | .IfExp _ _ _ _ => false
  | .Compare _ _ _ _ => false
  | _ => true
def plainO : Expr → Bool
  | .Name _ _ => true
  | .Subscript _ _ _ => true
  | .Attribute _ _ _ => true
  | .Constant _ _ _ => true
  | _ => false
def notSl : Expr → Bool
  | .Slice _ _ _ _ => false
  | _ => true
theorem star_each {e : Expr} {es : List Expr} {env : Env} (h : notStar e = true) : starEach (e :: es) env = (false, eval e env) :: starEach es env := by
  cases e <;> first | rfl | cases h
theorem star_any {env : Env} {pos : Pos} : ∀ {es : List Expr}, es.all notStar = true → (backTo pos (starEach es env)).any (·.1) = false
  | [], _ => rfl
  | e :: es, h => by
    simp only [List.all_cons, Bool.and_eq_true] at h
    rw [star_each h.1]
    have ih := star_any (env := env) (pos := pos) h.2
    show ((false || (backTo pos (starEach es env)).any (·.1))) = false
    rw [ih]; rfl
theorem star_all {env : Env} {pos : Pos} : ∀ {es : List Expr}, es.all notStar = true → (backTo pos (starEach es env)).all (fun x => !x.1) = true
  | [], _ => rfl
  | e :: es, h => by
    simp only [List.all_cons, Bool.and_eq_true] at h
    rw [star_each h.1]
    have ih := star_all (env := env) (pos := pos) h.2
    show ((!false && (backTo pos (starEach es env)).all (fun x => !x.1))) = true
    rw [ih]; rfl
theorem assign_each {e : Expr} {es : List Expr} {env : Env} (h : notStar e = true) : assignEach (e :: es) env = (false, assign e env) :: assignEach es env := by
  cases e <;> first | rfl | cases h
theorem plain_t {e : Expr} {env : Env} (h : plainT e = true) : ∀ whole, isTrue e env whole = (do let v ← whole; standAt e.pos; holding [v] (truthy v)) := by
  intro whole
  cases e with
  | UnaryOp op a pos =>
    have h' : op ≠ .Not := of_decide_eq_true h
    cases op <;> first | rfl | exact absurd rfl h'
  | BoolOp _ _ _ => cases h
  | IfExp _ _ _ _ => cases h
  | Compare _ _ _ _ => cases h
  | _ => rfl
theorem plain_o {o : Expr} {f : Str} {env : Env} (h : plainO o = true) : attributeBase o f env (eval o env) = eval o env := by
  cases o <;> first | rfl | cases h
theorem plain_ix {b : Expr} (h : notSl b = true) : PlainIx b := by
  intro o i
  cases b <;> first | rfl | cases h
theorem not_set {e : Expr} {env : Env} (h : notSet e = true) : ∀ x, foldedSetIterable e env x = pure x := by
  intro x
  cases e <;> first | rfl | cases h
theorem nomark' {op : CmpOp} {e : Expr} (h : notSet e = true) : behindInMarks op e = false := by
  cases e <;> first | rfl | cases h

mutual
def chkG (N : List Str) (sc : Scope) : Tg → Expr → Bool
  | .nm i => fun ex => match ex with
    | .Name x _ => decide (N[i]? = some x) && locB sc x
    | _ => false
  | .tup ts => fun ex => match ex with
    | .Tuple es _ _ => chkGs N sc ts es
    | _ => false
def chkGs (N : List Str) (sc : Scope) : Tgs → List Expr → Bool
  | .nil => fun es => match es with
    | [] => true
    | _ => false
  | .cons t ts => fun es => match es with
    | e :: es => notStar e && chkG N sc t e && chkGs N sc ts es
    | _ => false
end
def ownOf (N : List Str) (vs : List Nat) : List (Str × Nat) := vs.map fun i => (N.getD i "", i)
mutual
def chkE (N : List Str) (sc : Scope) (tb : Tab) : Ex → Expr → Bool
  | .var i => fun ex => match ex with
    | .Name x _ => decide (N[i]? = some x) && visB sc x && !(x == ("__debug__" : Str)) && !(x == ("__classdict__" : Str))
    | _ => false
  | .int i => fun ex => match ex with
    | .Constant (.int j) _ _ => decide (i = j)
    | _ => false
  | .bl i => fun ex => match ex with
    | .Constant (.bool j) _ _ => decide (i = j)
    | _ => false
  | .non => fun ex => match ex with
    | .Constant .none _ _ => true
    | _ => false
  | .str i => fun ex => match ex with
    | .Constant (.str j) _ _ => decide (i = j)
    | _ => false
  | .gl i => fun ex => match ex with
    | .Name x _ => decide (tb.gls[i]? = some x) && glB sc x
    | _ => false
  | .ty n => fun ex => match ex with
    | .Name x _ => glB sc x && decide (x ∈ bltNames) && decide (bootBuiltins x = some (.type n)) && decide (x ≠ "__name__") && !(x == ("__debug__" : Str))
    | _ => false
  | .bin op a b => fun ex => match ex with
    | .BinOp l o r _ => decide (op = o) && chkE N sc tb a l && chkE N sc tb b r
    | _ => false
  | .neg a => fun ex => match ex with
    | .UnaryOp .USub l _ => chkE N sc tb a l
    | _ => false
  | .not a => fun ex => match ex with
    | .UnaryOp .Not l _ => chkE N sc tb a l
    | _ => false
  | .cmp op a b => fun ex => match ex with
    | .Compare l [o] [r] _ => decide (op = o) && notSet r && chkE N sc tb a l && chkE N sc tb b r
    | _ => false
  | .chain o1 o2 a b c => fun ex => match ex with
    | .Compare l [p, q] [r, t] _ => decide (o1 = p) && decide (o2 = q) && notSet r && notSet t && chkE N sc tb a l && chkE N sc tb b r && chkE N sc tb c t
    | _ => false
  | .and a b => fun ex => match ex with
    | .BoolOp .And (x :: y :: rest) pos => chkE N sc tb a x && (match rest with
      | [] => chkE N sc tb b y
      | _ => chkE N sc tb b (.BoolOp .And (y :: rest) pos))
    | _ => false
  | .or a b => fun ex => match ex with
    | .BoolOp .Or (x :: y :: rest) pos => chkE N sc tb a x && (match rest with
      | [] => chkE N sc tb b y
      | _ => chkE N sc tb b (.BoolOp .Or (y :: rest) pos))
    | _ => false
  | .ife c a b => fun ex => match ex with
    | .IfExp t x y _ => chkE N sc tb c t && chkE N sc tb a x && chkE N sc tb b y
    | _ => false
  | .tup es => fun ex => match ex with
    | .Tuple xs _ _ => chkA N sc tb es xs
    | _ => false
  | .lst es => fun ex => match ex with
    | .List xs _ => chkA N sc tb es xs
    | _ => false
  | .call f es => fun ex => match ex with
    | .Call (.Name x _) (y :: ys) [] _ => decide (tb.fns[f]? = some x) && glB sc x && chkA N sc tb es (y :: ys)
    | .Call (.Name x _) [] [] _ => decide (tb.fns[f]? = some x) && glB sc x && chkA N sc tb es []
    | _ => false
  | .blt b es => fun ex => match ex with
    | .Call (.Name x _) (y :: ys) [] _ => decide (b.nm = x) && glB sc x && chkA N sc tb es (y :: ys)
    | _ => false
  | .mth m o es => fun ex => match ex with
    | .Call (.Attribute r nm ap) (y :: ys) [] cp => decide (m.nm = nm) && plainO r && (ap.endLine == cp.line) && decide ((y :: ys).length < 29) && chkE N sc tb o r && chkA N sc tb es (y :: ys)
    | .Call (.Attribute r nm ap) [] [] cp => decide (m.nm = nm) && plainO r && (ap.endLine == cp.line) && chkE N sc tb o r && chkA N sc tb es []
    | _ => false
  | .ix o i => fun ex => match ex with
    | .Subscript x y _ => notSl y && chkE N sc tb o x && chkE N sc tb i y
    | _ => false
  | .sl o lo hi => fun ex => match ex with
    | .Subscript x (.Slice l h none _) _ => chkE N sc tb o x && chkO N sc tb lo l && chkO N sc tb hi h
    | _ => false
  | .stp o c => fun ex => match ex with
    | .Subscript x (.Slice none none (some st) _) _ => chkE N sc tb o x && chkE N sc tb c st
    | _ => false
  | .maxd e c => fun ex => match ex with
    | .Call (.Name x _) [y] [⟨some nm, z, _⟩] _ => decide (x = "max") && decide (nm = Str.ofString "default") && glB sc x && notStar y && chkE N sc tb e y && chkE N sc tb c z
    | _ => false
  | .lc2 elt tg it c tg1 it1 c1 => fun ex => match ex with
    | .ListComp el [⟨t, i, ifs, 0⟩, ⟨t1, i1, ifs1, 0⟩] scope _ => notSet i && notSet i1 && blkC N sc scope (ownOf N (slotsG tg ++ slotsG tg1)) && chkI N sc tb it t i && chkG N scope tg t && chkC N scope tb c ifs && chkI N scope tb it1 t1 i1 && chkG N scope tg1 t1 && chkC N scope tb c1 ifs1 && chkE N scope tb elt el
    | _ => false
  | .lc elt tg it c => fun ex => match ex with
    | .ListComp el [⟨t, i, ifs, 0⟩] scope _ => notSet i && blkC N sc scope (ownOf N (slotsG tg)) && chkI N sc tb it t i && chkG N scope tg t && chkC N scope tb c ifs && chkE N scope tb elt el
    | _ => false
def chkA (N : List Str) (sc : Scope) (tb : Tab) : Exs → List Expr → Bool
  | .nil => fun xs => match xs with
    | [] => true
    | _ => false
  | .cons e es => fun xs => match xs with
    | x :: xs => notStar x && chkE N sc tb e x && chkA N sc tb es xs
    | _ => false
def chkO (N : List Str) (sc : Scope) (tb : Tab) : Exo → Option Expr → Bool
  | .no => fun x => match x with
    | none => true
    | _ => false
  | .yes e => fun x => match x with
    | some x => chkE N sc tb e x
    | _ => false
def chkC (N : List Str) (sc : Scope) (tb : Tab) : Exo → List Expr → Bool
  | .no => fun x => match x with
    | [] => true
    | _ => false
  | .yes e => fun x => match x with
    | [x] => chkE N sc tb e x
    | _ => false
def chkI (N : List Str) (sc : Scope) (tb : Tab) : Ito → Expr → Expr → Bool
  | .rng1 a => fun _ ex => match ex with
    | .Call (.Name x _) [y] [] _ => decide (x = "range") && glB sc x && notStar y && chkE N sc tb a y
    | _ => false
  | .rng2 a b => fun _ ex => match ex with
    | .Call (.Name x _) [y, z] [] _ => decide (x = "range") && glB sc x && notStar y && notStar z && chkE N sc tb a y && chkE N sc tb b z
    | _ => false
  | .rng3 a b c => fun _ ex => match ex with
    | .Call (.Name x _) [y, z, w] [] _ => decide (x = "range") && glB sc x && notStar y && notStar z && notStar w && chkE N sc tb a y && chkE N sc tb b z && chkE N sc tb c w
    | _ => false
  | .val e => fun _ ex => chkE N sc tb e ex
  | .enum e => fun t ex => match t, ex with
    | .Tuple _ _ _, .Call (.Name x _) [y] [] _ => decide (x = "enumerate") && glB sc x && notStar y && chkE N sc tb e y
    | _, _ => false
  | .zip a b => fun t ex => match t, ex with
    | .Tuple _ _ _, .Call (.Name x _) [y, z] [] _ => decide (x = "zip") && glB sc x && notStar y && notStar z && chkE N sc tb a y && chkE N sc tb b z
    | _, _ => false
end
theorem chkA_star {N : List Str} {sc : Scope} {tb : Tab} : ∀ {es : Exs} {xs : List Expr}, chkA N sc tb es xs = true → xs.all notStar = true
  | .nil, [], _ => rfl
  | .nil, _ :: _, h => by cases h
  | .cons _ _, [], h => by cases h
  | .cons e es, x :: xs, h => by
    simp only [chkA, Bool.and_eq_true] at h
    simp only [List.all_cons, Bool.and_eq_true]
    exact ⟨h.1.1, chkA_star h.2⟩
end UL
set_option Elab.async false
set_option linter.all false
set_option autoImplicit false
set_option maxRecDepth 100000
set_option maxHeartbeats 4000000
/-! UL9: soundness of targets, of what is walked. -/
namespace UL
open PySem PySem.Spec L2
def cG (K : PySem.W.Frag) (vs : List Nat) (t : U → USt → UH → (USt → UH → Prop) → Prop) : TG := fun v σ H Q => ∃ u s G Q0, RU K H u v ∧ SR K H s σ ∧ HR K G H ∧ t u s G Q0 ∧
  ∀ s' G' σ' H', Q0 s' G' → SR K H' s' σ' → HR K G' H' → Ext H H' → σ'.length = σ.length → (∀ i, i ∉ vs → σ'[i]? = σ[i]?) → Q σ' H'
def cGs (K : PySem.W.Frag) (vs : List Nat) (t : List U → USt → UH → (USt → UH → Prop) → Prop) : TGs := fun xs σ H Q => ∃ us s G Q0, RUs K H us xs ∧ SR K H s σ ∧ HR K G H ∧ t us s G Q0 ∧
  ∀ s' G' σ' H', Q0 s' G' → SR K H' s' σ' → HR K G' H' → Ext H H' → σ'.length = σ.length → (∀ i, i ∉ vs → σ'[i]? = σ[i]?) → Q σ' H'
theorem PG.weak {X : Cx} {e : Expr} {t t' : TG} (h : PG X e t) (w : ∀ v σ H Q, t' v σ H Q → t v σ H Q) : PG X e t' := ⟨fun pins s σ H v u Q I r q => h.run pins s σ H v u Q I r (w v σ H Q q)⟩
theorem PGs.weak {X : Cx} {e : List Expr} {t t' : TGs} (h : PGs X e t) (w : ∀ v σ H Q, t' v σ H Q → t v σ H Q) : PGs X e t' := ⟨fun pins s σ H v u Q I r q => h.run pins s σ H v u Q I r (w v σ H Q q)⟩
theorem chkGs_len {N : List Str} {sc : Scope} {env : Env} : ∀ {ts : Tgs} {es : List Expr}, chkGs N sc ts es = true → (assignEach es env).length = lenG ts ∧ (assignEach es env).findIdx? (·.1) = none
  | .nil, [], _ => ⟨rfl, rfl⟩
  | .nil, _ :: _, h => by cases h
  | .cons _ _, [], h => by cases h
  | .cons t ts, e :: es, h => by
    simp only [chkGs, Bool.and_eq_true] at h
    obtain ⟨i1, i2⟩ := chkGs_len (env := env) h.2
    rw [assign_each h.1.1]
    refine ⟨by simp [lenG, i1], ?_⟩
    rw [List.findIdx?_cons]
    simp [i2]
section
variable {sc : Scope} {tb : Tab} {Γ : Gam}
mutual
theorem sG {X : Cx} (C : CtxOk X sc tb Γ) : ∀ (t : Tg) (e : Expr), chkG X.N sc t e = true → PG X e (cG X.K (slotsG t) (trG t))
  | .nm i, e, h => by
    unfold chkG at h
    split at h
    · rename_i x p
      simp only [Bool.and_eq_true, decide_eq_true_eq] at h
      obtain ⟨h1, h2⟩ := h
      obtain ⟨hl, hf⟩ := C.sco.loc _ h2
      refine PG.weak (pg_name C.nd h1 hl hf) fun v σ H Q q => ?_
      obtain ⟨u, s, G, Q0, ru, hs, hg, q, k⟩ := q
      refine k _ G _ H q ?_ hg .refl (by simp) fun j hj => ?_
      · rw [setS_eq]; exact hs.set ru
      · have : i ≠ j := fun z => hj (by simp [slotsG, z])
        rw [List.getElem?_set_ne this]
    · cases h
  | .tup ts, e, h => by
    unfold chkG at h
    split at h
    · rename_i es kk p
      obtain ⟨l1, l2⟩ := chkGs_len (env := X.env) h
      have P := sGs C ts es h
      refine ⟨fun pins s σ H v u Q I r q => ?_⟩
      obtain ⟨w, s0, G, Q0, ru, hs, hg, q, k⟩ := q
      unfold trG at q
      split at q
      · obtain ⟨a, xs, rfl, h1, r1⟩ := ru.tup_inv
        exact (pg_tup (n := lenG ts) C.calm P l1 l2).run pins s σ H _ u Q I r ⟨a, xs, rfl, h1, by rw [← r1.length]; exact q.1, _, s0, G, Q0, r1, hs, hg, q.2, k⟩
      · cases ru
        split at q
        · rename_i e1
          obtain ⟨xs, h1, r1⟩ := hg.lst e1
          exact (pg_lst (n := lenG ts) C.calm P l1 l2).run pins s σ H _ u Q I r ⟨_, xs, rfl, SqL.of h1, by rw [← r1.length]; exact q.1, _, s0, G, Q0, r1, hs, hg, q.2, k⟩
        · exact q.elim
      · exact q.elim
    · cases h
theorem sGs {X : Cx} (C : CtxOk X sc tb Γ) : ∀ (ts : Tgs) (es : List Expr), chkGs X.N sc ts es = true → PGs X es (cGs X.K (slotsGs ts) (trGs ts))
  | .nil, [], _ => by
    refine PGs.weak pgs_nil fun v σ H Q q => ?_
    obtain ⟨us, s, G, Q0, ru, hs, hg, q, k⟩ := q
    obtain ⟨rfl, q⟩ := q
    cases ru
    exact ⟨rfl, k _ G _ H q hs hg .refl rfl fun _ _ => rfl⟩
  | .nil, _ :: _, h => by cases h
  | .cons _ _, [], h => by cases h
  | .cons t ts, e :: es, h => by
    simp only [chkGs, Bool.and_eq_true] at h
    refine PGs.weak (pgs_cons (sG C t e h.1.2) (sGs C ts es h.2) (by rw [assign_each h.1.1]; rfl)) fun v σ H Q q => ?_
    obtain ⟨us, s, G, Q0, ru, hs, hg, q, k⟩ := q
    unfold trGs at q
    split at q
    · cases ru with
      | cons r rt =>
        refine ⟨_, _, rfl, _, s, G, _, r, hs, hg, q, fun s1 G1 σ1 H1 q1 hs1 hg1 e1 l1 o1 => ?_⟩
        refine ⟨_, s1, G1, Q0, RUs.ext e1 rt, hs1, hg1, q1, fun s2 G2 σ2 H2 q2 hs2 hg2 e2 l2 o2 => ?_⟩
        refine k _ _ _ _ q2 hs2 hg2 (e1.trans e2) (l2.trans l1) fun i hi => ?_
        simp only [slotsGs, List.mem_append, not_or] at hi
        rw [o2 i hi.2, o1 i hi.1]
    · exact q.elim
end
end

/-! ### what is walked -/
structure ItRel (K : PySem.W.Frag) (H0 : Hp) (J : It) (ds : Deps) (ys : List U) : Prop where
  go : ∀ (i : Nat) (G : UH) (H : Hp), HR K G H → depsOk G ds → Ext H0 H → i < ys.length → J.go i H
  yld : ∀ (i : Nat) (G : UH) (H : Hp) (x : V) (H' : Hp), HR K G H → depsOk G ds → Ext H0 H → J.yld i H x H' → i < ys.length → ∃ u, ys[i]? = some u ∧ RU K H' u x ∧ HR K G H' ∧ Ext H H'
  stop : ∀ (G : UH) (H : Hp), HR K G H → depsOk G ds → Ext H0 H → J.stop ys.length H
def cI (K : PySem.W.Frag) (t : USt → UH → (Deps → List U → UH → Prop) → Prop) : TI := fun σ H R => ∃ s G R0, SR K H s σ ∧ HR K G H ∧ t s G R0 ∧
  ∀ ds ys G' H' J, R0 ds ys G' → HR K G' H' → Ext H H' → ItRel K H' J ds ys → R J H'
theorem PI.weak {X : Cx} {tg e : Expr} {t t' : TI} (h : PI X tg e t) (w : ∀ σ H R, t' σ H R → t σ H R) : PI X tg e t' := ⟨fun pins s σ H R I q => h.run pins s σ H R I (w σ H R q)⟩
theorem range_get : ∀ (n : Nat) (lo c : Int) (i : Nat), i < n → (rangeU lo c n)[i]? = some (.int (lo + i * c))
  | 0, _, _, _, h => by omega
  | n + 1, lo, c, 0, _ => by simp [rangeU]
  | n + 1, lo, c, i + 1, h => by
    simp only [rangeU, List.getElem?_cons_succ]
    rw [range_get n (lo + c) c i (by omega)]
    congr 2
    have : ((i + 1 : Nat) : Int) * c = (i : Int) * c + c := by
      rw [Int.natCast_add, Int.add_mul]; simp
    omega
theorem range_len : ∀ (n : Nat) (lo c : Int), (rangeU lo c n).length = n
  | 0, _, _ => rfl
  | n + 1, lo, c => by simp [rangeU, range_len n]
theorem enum_get : ∀ (us : List U) (k i : Nat), (enumU k us)[i]? = (us[i]?).map fun u => .tup [.int ((k + i : Nat) : Int), u]
  | [], _, _ => by simp [enumU]
  | u :: us, k, 0 => by simp [enumU]
  | u :: us, k, i + 1 => by
    simp only [enumU, List.getElem?_cons_succ]
    rw [enum_get us (k + 1) i]
    have : k + 1 + i = k + (i + 1) := by omega
    rw [this]
theorem enum_len : ∀ (us : List U) (k : Nat), (enumU k us).length = us.length
  | [], _ => rfl
  | u :: us, k => by simp [enumU, enum_len us]
theorem zip_get : ∀ (us ws : List U) (i : Nat) (u w : U), us[i]? = some u → ws[i]? = some w → (zipU us ws)[i]? = some (.tup [u, w])
  | [], _, _, _, _, h, _ => by simp at h
  | _ :: _, [], _, _, _, _, h => by simp at h
  | a :: us, b :: ws, 0, u, w, h1, h2 => by simp at h1 h2; subst h1; subst h2; simp [zipU]
  | a :: us, b :: ws, i + 1, u, w, h1, h2 => by simp [zipU]; exact zip_get us ws i u w (by simpa using h1) (by simpa using h2)
theorem zip_len : ∀ (us ws : List U), (zipU us ws).length = min us.length ws.length
  | [], _ => by simp [zipU]
  | _ :: _, [] => by simp [zipU]
  | a :: us, b :: ws => by simp [zipU, zip_len us ws]
theorem it_range {K : PySem.W.Frag} {H0 : Hp} (lo c : Int) (n : Nat) : ItRel K H0 (Itc lo c n) [] (rangeU lo c n) := by
  refine ⟨fun i G H _ _ _ hi => ?_, fun i G H x H' hg _ _ y hi => ?_, fun G H _ _ _ => ?_⟩
  · rw [range_len] at hi; exact hi
  · rw [range_len] at hi
    obtain ⟨rfl, rfl⟩ := y
    exact ⟨_, range_get n lo c i hi, .int _, hg, .refl⟩
  · rw [range_len]; exact Nat.le_refl _
theorem it_range1 {K : PySem.W.Frag} {H0 : Hp} (lo : Int) (n : Nat) : ItRel K H0 (Itr lo n) [] (rangeU lo 1 n) := by
  refine ⟨fun i G H _ _ _ hi => ?_, fun i G H x H' hg _ _ y hi => ?_, fun G H _ _ _ => ?_⟩
  · rw [range_len] at hi; exact hi
  · rw [range_len] at hi
    obtain ⟨rfl, rfl⟩ := y
    have q := range_get n lo 1 i hi
    rw [Int.mul_one] at q
    exact ⟨_, q, .int _, hg, .refl⟩
  · rw [range_len]; exact Nat.le_refl _
theorem it_tup {K : PySem.W.Frag} {H0 : Hp} {a : Addr} {xs : List V} {us : List U} (h : SqT K H0 a xs) (r : RUs K H0 us xs) : ItRel K H0 (Itt K a) [] us := by
  refine ⟨fun i G H _ _ e hi => ?_, fun i G H x H' hg _ e y hi => ?_, fun G H _ _ e => ?_⟩
  · rw [r.length] at hi
    exact ⟨xs, xs[i], SqT.ext e h, by simp [hi]⟩
  · obtain ⟨rfl, y⟩ := y
    obtain ⟨u, h1, h2⟩ := (RUs.ext e r).get' (y xs (SqT.ext e h))
    exact ⟨u, h1, h2, hg, .refl⟩
  · exact ⟨xs, SqT.ext e h, by rw [r.length]; exact Nat.le_refl _⟩
theorem it_rol {K : PySem.W.Frag} {H0 : Hp} {a : Addr} {xs : List V} {us : List U} (h : Frz K H0 a xs) (r : RUs K H0 us xs) : ItRel K H0 (Itl K a) [] us := by
  refine ⟨fun i G H _ _ e hi => ?_, fun i G H x H' hg _ e y hi => ?_, fun G H _ _ e => ?_⟩
  · rw [r.length] at hi
    exact ⟨xs, xs[i], (Frz.ext e h).sq, by simp [hi]⟩
  · obtain ⟨rfl, y⟩ := y
    obtain ⟨u, h1, h2⟩ := (RUs.ext e r).get' (y xs (Frz.ext e h).sq)
    exact ⟨u, h1, h2, hg, .refl⟩
  · exact ⟨xs, (Frz.ext e h).sq, by rw [r.length]; exact Nat.le_refl _⟩
theorem it_lst {K : PySem.W.Frag} {H0 : Hp} {a : Addr} {us : List U} : ItRel K H0 (Itl K a) [(a, us)] us := by
  refine ⟨fun i G H hg d e hi => ?_, fun i G H x H' hg d e y hi => ?_, fun G H hg d e => ?_⟩
  · obtain ⟨xs, h1, r⟩ := hg.lst d.1
    rw [r.length] at hi
    exact ⟨xs, xs[i], SqL.of h1, by simp [hi]⟩
  · obtain ⟨xs, h1, r⟩ := hg.lst d.1
    obtain ⟨rfl, y⟩ := y
    obtain ⟨u, h1, h2⟩ := r.get' (y xs (SqL.of h1))
    exact ⟨u, h1, h2, hg, .refl⟩
  · obtain ⟨xs, h1, r⟩ := hg.lst d.1
    exact ⟨xs, SqL.of h1, by rw [r.length]; exact Nat.le_refl _⟩
theorem it_str {K : PySem.W.Frag} {H0 : Hp} (z : Str) : ItRel K H0 (Its z) [] (z.cps.toList.map fun c => U.str ⟨#[c]⟩) := by
  refine ⟨fun i G H _ _ _ hi => ?_, fun i G H x H' hg _ _ y hi => ?_, fun G H _ _ _ => ?_⟩
  · show i < z.cps.size
    simpa using hi
  · obtain ⟨rfl, c, hc, rfl⟩ := y
    refine ⟨.str ⟨#[c]⟩, ?_, .str _, hg, .refl⟩
    rw [List.getElem?_map, Array.getElem?_toList, hc]; rfl
  · show z.cps.size ≤ _
    simp
/-- a sequence that is told, as the layer below has it -/
theorem seq_of {K : PySem.W.Frag} {G : UH} {H : Hp} {u : U} {v : V} {k : Deps → List U → Prop} (hg : HR K G H) (r : RU K H u v) (h : seqOf u G k) :
    ∃ (kk : Bool) (a : Addr) (xs : List V) (ds : Deps) (us : List U), v = .ref a ∧ SqK K H kk a xs ∧ k ds us ∧ depsOk G ds ∧
      (∀ G1 H1, HR K G1 H1 → depsOk G1 ds → Ext H H1 → ∃ ys, SqK K H1 kk a ys ∧ RUs K H1 us ys) := by
  unfold seqOf at h
  split at h
  · obtain ⟨a, xs, rfl, h1, r1⟩ := r.tup_inv
    exact ⟨true, a, xs, _, _, rfl, h1, h, trivial, fun G1 H1 _ _ e => ⟨xs, SqT.ext e h1, RUs.ext e r1⟩⟩
  · obtain ⟨a, xs, rfl, h1, r1⟩ := r.rol_inv
    exact ⟨false, a, xs, _, _, rfl, h1.sq, h, trivial, fun G1 H1 _ _ e => ⟨xs, (Frz.ext e h1).sq, RUs.ext e r1⟩⟩
  · cases r
    split at h
    · rename_i e1
      obtain ⟨xs, h1, r1⟩ := hg.lst e1
      exact ⟨false, _, xs, _, _, rfl, SqL.of h1, h, ⟨e1, trivial⟩, fun G1 H1 hg1 d e => by
        obtain ⟨ys, h2, r2⟩ := hg1.lst d.1
        exact ⟨ys, SqL.of h2, r2⟩⟩
    · exact h.elim
  · exact h.elim
theorem depsOk_app {G : UH} : ∀ {ds es : Deps}, depsOk G (ds ++ es) ↔ depsOk G ds ∧ depsOk G es
  | [], es => by simp [depsOk]
  | d :: ds, es => by simp [depsOk, depsOk_app (ds := ds), and_assoc]
theorem it_enum {K : PySem.W.Frag} {H0 : Hp} {kk : Bool} {a : Addr} {ds : Deps} {us : List U}
    (h : ∀ G1 H1, HR K G1 H1 → depsOk G1 ds → Ext H0 H1 → ∃ ys, SqK K H1 kk a ys ∧ RUs K H1 us ys) : ItRel K H0 (IteK K kk a) ds (enumU 0 us) := by
  refine ⟨fun i G H hg d e hi => ?_, fun i G H x H' hg d e y hi => ?_, fun G H hg d e => ?_⟩
  · obtain ⟨xs, h1, r⟩ := h G H hg d e
    rw [enum_len, r.length] at hi
    exact ⟨xs, xs[i], h1, by simp [hi]⟩
  · obtain ⟨xs, h1, r⟩ := h G H hg d e
    obtain ⟨T, z, rfl, hT, rfl, y⟩ := y
    obtain ⟨u, h2, h3⟩ := r.get' (y xs h1)
    obtain ⟨e1, g1, q⟩ := hg.newTup hT (ws := [.int (i : Nat), u]) (ys := [.int (i : Nat), z]) (.cons (.int _) (.cons h3 .nil))
    exact ⟨_, by rw [enum_get, h2]; simp, q, g1, e1⟩
  · obtain ⟨xs, h1, r⟩ := h G H hg d e
    exact ⟨xs, h1, by rw [enum_len, r.length]⟩
theorem it_zip {K : PySem.W.Frag} {H0 : Hp} {k1 k2 : Bool} {a b : Addr} {ds es : Deps} {us ws : List U}
    (h : ∀ G1 H1, HR K G1 H1 → depsOk G1 ds → Ext H0 H1 → ∃ ys, SqK K H1 k1 a ys ∧ RUs K H1 us ys)
    (h' : ∀ G1 H1, HR K G1 H1 → depsOk G1 es → Ext H0 H1 → ∃ ys, SqK K H1 k2 b ys ∧ RUs K H1 ws ys) : ItRel K H0 (ItzK K k1 k2 a b) (ds ++ es) (zipU us ws) := by
  refine ⟨fun i G H hg d e hi => ?_, fun i G H x H' hg d e y hi => ?_, fun G H hg d e => ?_⟩
  · obtain ⟨d1, d2⟩ := depsOk_app.mp d
    obtain ⟨xs, h1, r⟩ := h G H hg d1 e
    obtain ⟨ys, h2, r2⟩ := h' G H hg d2 e
    rw [zip_len, r.length, r2.length] at hi
    have i1 : i < xs.length := by omega
    have i2 : i < ys.length := by omega
    exact ⟨xs, ys, xs[i], ys[i], h1, h2, by simp [i1], by simp [i2]⟩
  · obtain ⟨d1, d2⟩ := depsOk_app.mp d
    obtain ⟨xs, h1, r⟩ := h G H hg d1 e
    obtain ⟨ys, h2, r2⟩ := h' G H hg d2 e
    obtain ⟨T, z, z2, rfl, hT, rfl, y1, y2⟩ := y
    obtain ⟨u, h3, h4⟩ := r.get' (y1 xs h1)
    obtain ⟨w, h5, h6⟩ := r2.get' (y2 ys h2)
    obtain ⟨e1, g1, q⟩ := hg.newTup hT (ws := [u, w]) (ys := [z, z2]) (.cons h4 (.cons h6 .nil))
    exact ⟨_, zip_get us ws i u w h3 h5, q, g1, e1⟩
  · obtain ⟨d1, d2⟩ := depsOk_app.mp d
    obtain ⟨xs, h1, r⟩ := h G H hg d1 e
    obtain ⟨ys, h2, r2⟩ := h' G H hg d2 e
    refine ⟨xs, ys, h1, h2, ?_⟩
    rw [zip_len, r.length, r2.length]
    omega
end UL
set_option Elab.async false
set_option linter.all false
set_option autoImplicit false
set_option maxRecDepth 100000
set_option maxHeartbeats 4000000
/-! UL10: soundness of expressions. -/
namespace UL
open PySem PySem.Spec L2
def cO (K : PySem.W.Frag) (t : USt → UH → (Option Int → UH → Prop) → Prop) : TO := fun σ H Q => ∃ s G Q0, SR K H s σ ∧ HR K G H ∧ t s G Q0 ∧ ∀ o G' H', Q0 o G' → HR K G' H' → Ext H H' → Q o H'
theorem PO.weak {X : Cx} {e : Option Expr} {t t' : TO} (h : PO X e t) (w : ∀ σ H Q, t' σ H Q → t σ H Q) : PO X e t' := ⟨fun pins s σ H Q I q => h.run pins s σ H Q I (w σ H Q q)⟩
theorem PTs.weak {X : Cx} {e : List Expr} {t t' : TT} (h : PTs X e t) (w : ∀ σ H Q, t' σ H Q → t σ H Q) : PTs X e t' := ⟨fun pins s σ H Q I q => h.run pins s σ H Q I (w σ H Q q)⟩
theorem pw_of {X : Cx} {op : BoolOp} {vs : List Expr} {pos : Pos} {t : TT} (h : PT X (.BoolOp op vs pos) t) : PW X (.BoolOp op vs pos) t :=
  ⟨fun _ pins s σ H Q I q => h.run pins s σ H Q I q⟩
section
variable {X : Cx}
theorem Blt.pe {b : Blt} {e : Expr} {es : List Expr} {p pos : Pos} {t : TA} (hc : X.calm = true) (hg : Gl X b.nm) (hm : X.mg b.nm = none) (ha : PA X (e :: es) t)
    (he : starEach (e :: es) X.env = (false, eval e X.env) :: starEach es X.env) (hpl : (backTo pos (starEach es X.env)).any (·.1) = false) : PE X (.Call (.Name b.nm p) (e :: es) [] pos) (tCB (cF X.K b.fn) t) := by
  have k := Blt.ok (X := X) hc b
  cases b with
  | len => exact pe_callB k hg hm (by decide +kernel) ha (by decide) (by decide) he hpl
  | abs => exact pe_callB k hg hm (by decide +kernel) ha (by decide) (by decide) he hpl
  | max2 => exact pe_callB k hg hm (by decide +kernel) ha (by decide) (by decide) he hpl
  | min2 => exact pe_callB k hg hm (by decide +kernel) ha (by decide) (by decide) he hpl
  | int => exact pe_callTy k hg hm (by decide +kernel) ha (by decide) (by decide) he hpl
  | str => exact pe_callTy k hg hm (by decide +kernel) ha (by decide) (by decide) he hpl
  | ord => exact pe_callB k hg hm (by decide +kernel) ha (by decide) (by decide) he hpl
  | sum => exact pe_callB k hg hm (by decide +kernel) ha (by decide) (by decide) he hpl
  | sorted => exact pe_callB k hg hm (by decide +kernel) ha (by decide) (by decide) he hpl
  | tuple => exact pe_callTy k hg hm (by decide +kernel) ha (by decide) (by decide) he hpl
  | list => exact pe_callTy k hg hm (by decide +kernel) ha (by decide) (by decide) he hpl
  | all => exact pe_callB k hg hm (by decide +kernel) ha (by decide) (by decide) he hpl
  | any => exact pe_callB k hg hm (by decide +kernel) ha (by decide) (by decide) he hpl
  | maxL => exact pe_callB k hg hm (by decide +kernel) ha (by decide) (by decide) he hpl
  | minL => exact pe_callB k hg hm (by decide +kernel) ha (by decide) (by decide) he hpl
  | divmod => exact pe_callB k hg hm (by decide +kernel) ha (by decide) (by decide) he hpl
  | isi => exact pe_callB k hg hm (by decide +kernel) ha (by decide) (by decide) he hpl
theorem Blt.nm_mem (b : Blt) : b.nm ∈ bltNames := by
  cases b <;> decide
theorem pe_callSD0 {k : Nat} {f : Addr} {fd : FuncData} {ps : List Str} {sp : Sp} {E : L2.St → XK} {x : Str} {p pos : Pos} (F : FnOk X.prog X.w X.K X.mg X.base (CX X.prog X.w) k f fd ps sp) (hr : Room k X.A) (hg : Gl X x) (hm : X.mg x = some (.ref f))
    (hk : PySem.W.keepIn X.K (.ref f) = true) (hb : Binds X.K fd ps []) (hx : ∀ σ, PassesAt (CX X.prog X.w) X σ (E σ)) (hdb : (x == ("__debug__" : Str)) = false) : PE X (.Call (.Name x p) [] [] pos) (tCallSD sp [] E tNil) := by
  refine ⟨fun pins s σ H Q I h => ?_⟩
  refine wpAny_Call_Name_kw (ld_glob I hg hm ?_ hdb)
  exact PySem.W.callWith_K0 I.kIn hk (run_fnSD (us := []) F hr hb .nil (hx σ) I .nil h)
end
theorem wipe_get {σ : L2.St} : ∀ {vs : List Nat} {i : Nat}, (wipe σ vs)[i]? = if i ∈ vs ∧ i < σ.length then some none else σ[i]?
  | [], i => by simp [wipe]
  | v :: vs, i => by
    unfold wipe
    by_cases h : v = i
    · subst h
      by_cases hl : v < σ.length
      · rw [List.getElem?_set_self (by rw [wipe_length]; exact hl), if_pos ⟨List.mem_cons_self, hl⟩]
      · rw [if_neg (fun z => hl z.2), List.getElem?_eq_none (by simpa [wipe_length] using hl), List.getElem?_eq_none (by simpa using hl)]
    · rw [List.getElem?_set_ne h, wipe_get]
      simp [Ne.symm h]
theorem wipe_eq {σ σ' : L2.St} {vs : List Nat} (hl : σ'.length = σ.length) (h : ∀ i, i ∉ vs → σ'[i]? = (wipe σ vs)[i]?) : wipe σ' vs = wipe σ vs := by
  refine List.ext_getElem? fun i => ?_
  rw [wipe_get, wipe_get, hl]
  by_cases hi : i ∈ vs
  · by_cases h2 : i < σ.length
    · rw [if_pos ⟨hi, h2⟩, if_pos ⟨hi, h2⟩]
    · rw [if_neg (fun z => h2 z.2), if_neg (fun z => h2 z.2), List.getElem?_eq_none (by omega), List.getElem?_eq_none (by omega)]
  · rw [if_neg (fun z => hi z.1), if_neg (fun z => hi z.1), h i hi, wipe_get, if_neg (fun z => hi z.1)]
theorem SR.wipe {K : PySem.W.Frag} {H : Hp} {s : USt} {σ : L2.St} (r : SR K H s σ) : ∀ vs : List Nat, SR K H (wipeU s vs) (wipe σ vs)
  | [] => r
  | v :: vs => by
    unfold wipeU L2.wipe
    rw [setS_eq]
    exact (SR.wipe r vs).unset v none
theorem own_snd (N : List Str) (vs : List Nat) : (ownOf N vs).map (·.2) = vs := by
  unfold ownOf
  rw [List.map_map]
  exact List.map_id' vs
theorem takes_false {X : Cx} {W : WX} (h : ∀ c d σ H, ¬ W c d σ H) : Takes X W := fun u s' ⟨_, _, _, _, _, _, _, _, _, _, _, _, _, _, _, _, w⟩ => absurd w (h _ _ _ _)
section
variable {sc : Scope} {tb : Tab} {Γ : Gam}
theorem ScOk.blk {X : Cx} (C : ScOk X sc) (s : Shared) (H : Hp) (scope : Scope) (Cc : Addr) (cl : List (Str × Addr)) (fp : List Addr) : ScOk (X.blk s H scope (compEnvC scope cl Cc X.env) fp) scope := by
  have keep : ∀ {x : Str} {k : NameKind}, k ≠ .free → scope.names.lookup x = some k → (relS scope X.env.scope).names.lookup x = some k := fun hk h => lookup_relS_keep hk h
  have fr : ∀ {x : Str}, scope.names.lookup x = some .free → (relS scope X.env.scope).names.lookup x = some .cell ∨ (relS scope X.env.scope).names.lookup x = some .free := fun {x} h => by
    have q : ∀ l : List (Str × NameKind), l.lookup x = some .free → (l.map fun (n, k) => if (k == NameKind.free && X.env.scope.kind == .function && X.env.scope.names.lookup n == some .cell) then (n, NameKind.cell) else (n, k)).lookup x = some .cell ∨
        (l.map fun (n, k) => if (k == NameKind.free && X.env.scope.kind == .function && X.env.scope.names.lookup n == some .cell) then (n, NameKind.cell) else (n, k)).lookup x = some .free := by
      intro l
      induction l with
      | nil => intro z; cases z
      | cons p r ih =>
        obtain ⟨n, k⟩ := p
        intro z
        by_cases e : x = n
        · subst e
          simp only [List.lookup_cons, beq_self_eq_true] at z
          cases z
          simp only [List.map_cons]
          split
          · left; simp [List.lookup_cons]
          · right; simp [List.lookup_cons]
        · have e' : (x == n) = false := by simpa using e
          simp only [List.lookup_cons, e'] at z
          simp only [List.map_cons]
          have i := ih z
          split
          · simpa [List.lookup_cons, e'] using i
          · simpa [List.lookup_cons, e'] using i
    exact q scope.names h
  refine ⟨fun x h => ?_, fun x h => ?_, fun x h => ?_, fun x h => ?_⟩
  · simp only [visB, Bool.or_eq_true, decide_eq_true_eq] at h
    rcases h with (h | h) | h
    · exact .inl (keep (by decide) h)
    · exact .inr (.inl (keep (by decide) h))
    · rcases fr h with z | z
      · exact .inr (.inl z)
      · exact .inr (.inr z)
  · simp only [locB, Bool.or_eq_true, decide_eq_true_eq] at h
    rcases h with h | h
    · exact ⟨.inl (keep (by decide) h), .inr (keep (by decide) h)⟩
    · refine ⟨.inr (keep (by decide) h), .inl ?_⟩
      show (scope.names.lookup x == some .cell) = true
      rw [h]; rfl
  · have h' : scope.names.lookup x = some .globalImplicit := of_decide_eq_true h
    exact keep (by decide) h'
  · rcases h with h | h
    · exact .inl (keep (by decide) h)
    · exact fr h
theorem CtxOk.blk {X : Cx} (C : CtxOk X sc tb Γ) (s : Shared) (H : Hp) (scope : Scope) (Cc : Addr) (cl : List (Str × Addr)) (fp : List Addr) : CtxOk (X.blk s H scope (compEnvC scope cl Cc X.env) fp) scope tb Γ :=
  ⟨C.sco.blk s H scope Cc cl fp, C.nd, C.calm, C.hu, fun i x h => ⟨(C.fns i x h).ex, (C.fns i x h).db⟩, C.gls, C.blt⟩
theorem blk_ok {X : Cx} (C : CtxOk X sc tb Γ) {scope : Scope} {own : List (Str × Nat)} (h : blkC X.N sc scope own = true) : BlkOk X.N X.env.scope scope own := by
  obtain ⟨h1, h2, h3, h4, h5⟩ := blkOk_by h
  exact ⟨h1, h2, h3, fun y hy e => C.sco.cf _ (h4 y hy e), h5⟩
/-- a comprehension's turns, as the layer below asks for them -/
theorem lc_conv {X : Cx} {tg : Tg} {it : USt → UH → (Deps → List U → UH → Prop) → Prop} {tt : UTT} {te : UT} {σ : L2.St} {H : Hp} {Q : VK}
    (h : cE X.K (fun s G Q => it s G fun ds ys G1 => ∀ p, G1 p = none → lcU ds p (fun y k G2 => trG tg y (wipeU s (slotsG tg)) G2 k) tt te Q ys [] (up G1 p (.lst []))) σ H Q) :
    tLc (cI X.K it) (cG X.K (slotsG tg) (trG tg)) (cT X.K tt) (cE X.K te) (slotsG tg) σ H Q := by
  obtain ⟨s, G, Q0, hs, hg, h, k⟩ := h
  refine ⟨s, G, _, hs, hg, h, fun ds ys G1 H1 J h1 hg1 e1 R => ?_⟩
  intro D hD
  obtain ⟨eD, gD⟩ := hg1.newLst (p := D) (ws := []) (ys := []) hD .nil
  have h1 := h1 D (hg1.fresh hD)
  refine ⟨fun i m H2 => m = ys.length - i ∧ i ≤ ys.length ∧ Ext H1 H2 ∧ ∃ acc G2, HR X.K G2 H2 ∧ lcU ds D (fun y k G2 => trG tg y (wipeU s (slotsG tg)) G2 k) tt te Q0 (ys.drop i) acc G2, ⟨_, rfl, Nat.zero_le _, eD, [], _, gD, h1⟩, ?_⟩
  rintro i m H2 ⟨rfl, hi, e2, acc, G2, hg2, h2⟩
  by_cases hlt : i < ys.length
  · rw [List.drop_eq_getElem_cons hlt] at h2
    simp only [lcU] at h2
    obtain ⟨d2, p2, h2⟩ := h2
    refine .inr ⟨R.go i G2 H2 hg2 d2 e2 hlt, fun H3 => Ext H1 H3 ∧ ∃ acc G3, HR X.K G3 H3 ∧ lcU ds D (fun y k G2 => trG tg y (wipeU s (slotsG tg)) G2 k) tt te Q0 (ys.drop (i + 1)) acc G3, fun H' ⟨e', q'⟩ => ⟨_, by omega, rfl, hlt, e', q'⟩, fun x H3 y => ?_⟩
    obtain ⟨u, hu, ru, hg3, e3⟩ := R.yld i G2 H2 x H3 hg2 d2 e2 y hlt
    have eu : ys[i] = u := by
      rw [List.getElem?_eq_getElem hlt] at hu
      exact Option.some.inj hu
    rw [eu] at h2
    refine ⟨u, _, G2, _, ru, ((hs.ext (e1.trans (e2.trans e3)))).wipe _, hg3, h2, fun s4 G4 σ4 H4 h4 hs4 hg4 e4 l4 o4 => ?_⟩
    refine ⟨wipe_eq (by rw [l4, wipe_length]) o4, s4, G4, _, hs4, hg4, h4, fun b G5 H5 h5 hg5 e5 => ?_⟩
    have e15 : Ext H1 H5 := ((e2.trans e3).trans e4).trans e5
    cases b with
    | false =>
      simp only [Bool.false_eq_true, if_false] at h5 ⊢
      obtain ⟨G6, l6, h6⟩ := h5
      exact ⟨e15, acc, G6, hg5.le l6, h6⟩
    | true =>
      simp only [if_true] at h5 ⊢
      refine ⟨s4, G5, _, hs4.ext e5, hg5, h5, fun w G6 v6 H6 h6 r6 hg6 e6 => ?_⟩
      obtain ⟨p6, l6, G7, le7, h7⟩ := h6
      obtain ⟨xs, h8, r8⟩ := hg6.lst p6
      obtain ⟨e8, g8⟩ := hg6.setLst p6 (r8.append (.cons r6 .nil))
      exact ⟨xs, h8, by rw [← r8.length]; exact l6, (e15.trans e6).trans e8, _, G7, g8.le le7, h7⟩
  · have ei : i = ys.length := by omega
    subst ei
    rw [List.drop_length] at h2
    simp only [lcU] at h2
    exact .inl ⟨R.stop G2 H2 hg2 h2.1 e2, k _ G2 _ H2 h2.2.2 (.ref D) hg2 (e1.trans e2)⟩
theorem lc2_conv {X : Cx} {tg tg1 : Tg} {it it1 : USt → UH → (Deps → List U → UH → Prop) → Prop} {tt tt1 : UTT} {te : UT} {σ : L2.St} {H : Hp} {Q : VK}
    (h : cE X.K (fun s G Q => it s G fun ds ys G1 => ∀ p, G1 p = none → lc2U ds p (fun y k G2 => trG tg y (wipeU s (slotsG tg ++ slotsG tg1)) G2 k) tt
      (fun s1 G2 acc K => it1 s1 G2 fun ds1 zs G3 => lcK ds1 p (fun z k G4 => trG tg1 z (wipeU s1 (slotsG tg1)) G4 k) tt1 te K zs acc G3) Q ys [] (up G1 p (.lst []))) σ H Q) :
    tLc2 (cI X.K it) (cG X.K (slotsG tg) (trG tg)) (cT X.K tt) (cI X.K it1) (cG X.K (slotsG tg1) (trG tg1)) (cT X.K tt1) (cE X.K te) (slotsG tg ++ slotsG tg1) (slotsG tg1) σ H Q := by
  obtain ⟨s, G, Q0, hs, hg, h, k⟩ := h
  refine ⟨s, G, _, hs, hg, h, fun ds ys G1 H1 J h1 hg1 e1 R => ?_⟩
  intro D hD
  obtain ⟨eD, gD⟩ := hg1.newLst (p := D) (ws := []) (ys := []) hD .nil
  have h1 := h1 D (hg1.fresh hD)
  generalize hin : (fun (s1 : USt) (G2 : UH) (acc : List U) (K : List U → UH → Prop) => it1 s1 G2 fun ds1 zs G3 => lcK ds1 D (fun z k G4 => trG tg1 z (wipeU s1 (slotsG tg1)) G4 k) tt1 te K zs acc G3) = inner at h1
  refine ⟨fun i m H2 => m = ys.length - i ∧ i ≤ ys.length ∧ Ext H1 H2 ∧ ∃ acc G2, HR X.K G2 H2 ∧ lc2U ds D (fun y k G2 => trG tg y (wipeU s (slotsG tg ++ slotsG tg1)) G2 k) tt inner Q0 (ys.drop i) acc G2, ⟨_, rfl, Nat.zero_le _, eD, [], _, gD, h1⟩, ?_⟩
  rintro i m H2 ⟨rfl, hi, e2, acc, G2, hg2, h2⟩
  by_cases hlt : i < ys.length
  · rw [List.drop_eq_getElem_cons hlt] at h2
    simp only [lc2U] at h2
    obtain ⟨d2, p2, h2⟩ := h2
    refine .inr ⟨R.go i G2 H2 hg2 d2 e2 hlt, fun H3 => Ext H1 H3 ∧ ∃ acc G3, HR X.K G3 H3 ∧ lc2U ds D (fun y k G2 => trG tg y (wipeU s (slotsG tg ++ slotsG tg1)) G2 k) tt inner Q0 (ys.drop (i + 1)) acc G3, fun H' ⟨e', q'⟩ => ⟨_, by omega, rfl, hlt, e', q'⟩, fun x H3 y => ?_⟩
    obtain ⟨u, hu, ru, hg3, e3⟩ := R.yld i G2 H2 x H3 hg2 d2 e2 y hlt
    have eu : ys[i] = u := by
      rw [List.getElem?_eq_getElem hlt] at hu
      exact Option.some.inj hu
    rw [eu] at h2
    refine ⟨u, _, G2, _, ru, ((hs.ext (e1.trans (e2.trans e3)))).wipe _, hg3, h2, fun s4 G4 σ4 H4 h4 hs4 hg4 e4 l4 o4 => ?_⟩
    refine ⟨wipe_eq (by rw [l4, wipe_length]) fun j hj => o4 j (fun z => hj (List.mem_append_left _ z)), s4, G4, _, hs4, hg4, h4, fun b G5 H5 h5 hg5 e5 => ?_⟩
    have e15 : Ext H1 H5 := ((e2.trans e3).trans e4).trans e5
    cases b with
    | false =>
      simp only [Bool.false_eq_true, if_false] at h5 ⊢
      obtain ⟨G6, l6, h6⟩ := h5
      exact ⟨e15, acc, G6, hg5.le l6, h6⟩
    | true =>
      simp only [if_true] at h5 ⊢
      rw [← hin] at h5
      refine ⟨s4, G5, _, hs4.ext e5, hg5, h5, fun ds1 zs G6 H6 J1 h6 hg6 e6 R1 => ?_⟩
      generalize hK : (fun (acc' : List U) (G3 : UH) => ∃ G4, Le G4 G3 ∧ lc2U ds D (fun y k G2 => trG tg y (wipeU s (slotsG tg ++ slotsG tg1)) G2 k) tt (fun (s1 : USt) (G2 : UH) (acc : List U) (K : List U → UH → Prop) => it1 s1 G2 fun ds1 zs G3 => lcK ds1 D (fun z k G4 => trG tg1 z (wipeU s1 (slotsG tg1)) G4 k) tt1 te K zs acc G3) Q0 (ys.drop (i + 1)) acc' G4) = K at h6
      refine ⟨fun j m H7 => m = zs.length - j ∧ j ≤ zs.length ∧ Ext H6 H7 ∧ ∃ acc G7, HR X.K G7 H7 ∧ lcK ds1 D (fun z k G4 => trG tg1 z (wipeU s4 (slotsG tg1)) G4 k) tt1 te K (zs.drop j) acc G7, ⟨_, rfl, Nat.zero_le _, .refl, acc, _, hg6, h6⟩, ?_⟩
      rintro j m H7 ⟨rfl, hj, e7, acc7, G7, hg7, h7⟩
      by_cases hlj : j < zs.length
      · rw [List.drop_eq_getElem_cons hlj] at h7
        simp only [lcK] at h7
        obtain ⟨d7, p7, h7⟩ := h7
        refine .inr ⟨R1.go j G7 H7 hg7 d7 e7 hlj, fun H8 => Ext H6 H8 ∧ ∃ acc G8, HR X.K G8 H8 ∧ lcK ds1 D (fun z k G4 => trG tg1 z (wipeU s4 (slotsG tg1)) G4 k) tt1 te K (zs.drop (j + 1)) acc G8, fun H' ⟨e', q'⟩ => ⟨_, by omega, rfl, hlj, e', q'⟩, fun x1 H8 y1 => ?_⟩
        obtain ⟨u1, hu1, ru1, hg8, e8⟩ := R1.yld j G7 H7 x1 H8 hg7 d7 e7 y1 hlj
        have eu1 : zs[j] = u1 := by
          rw [List.getElem?_eq_getElem hlj] at hu1
          exact Option.some.inj hu1
        rw [eu1] at h7
        refine ⟨u1, _, G7, _, ru1, ((hs4.ext (e5.trans (e6.trans (e7.trans e8))))).wipe _, hg8, h7, fun s9 G9 σ9 H9 h9 hs9 hg9 e9 l9 o9 => ?_⟩
        refine ⟨wipe_eq (by rw [l9, wipe_length]) o9, s9, G9, _, hs9, hg9, h9, fun b1 Ga Ha ha hga ea => ?_⟩
        have e6a : Ext H6 Ha := ((e7.trans e8).trans e9).trans ea
        cases b1 with
        | false =>
          simp only [Bool.false_eq_true, if_false] at ha ⊢
          obtain ⟨Gb, lb, hb⟩ := ha
          exact ⟨e6a, acc7, Gb, hga.le lb, hb⟩
        | true =>
          simp only [if_true] at ha ⊢
          refine ⟨s9, Ga, _, hs9.ext ea, hga, ha, fun w Gb vb Hb hb rb hgb eb => ?_⟩
          obtain ⟨pb, lb, Gc, lec, hc⟩ := hb
          obtain ⟨xs, hx, rx⟩ := hgb.lst pb
          obtain ⟨ed, gd⟩ := hgb.setLst pb (rx.append (.cons rb .nil))
          exact ⟨xs, hx, by rw [← rx.length]; exact lb, (e6a.trans eb).trans ed, _, Gc, gd.le lec, hc⟩
      · have ej : j = zs.length := by omega
        subst ej
        rw [List.drop_length] at h7
        simp only [lcK] at h7
        obtain ⟨d7, p7, h7⟩ := h7
        rw [← hK] at h7
        obtain ⟨G8, l8, h8⟩ := h7
        rw [← hin]
        exact .inl ⟨R1.stop G7 H7 hg7 d7 e7, (e15.trans e6).trans e7, acc7, G8, hg7.le l8, h8⟩
  · have ei : i = ys.length := by omega
    subst ei
    rw [List.drop_length] at h2
    simp only [lc2U] at h2
    exact .inl ⟨R.stop G2 H2 hg2 h2.1 e2, k _ G2 _ H2 h2.2.2 (.ref D) hg2 (e1.trans e2)⟩
end
end UL
set_option Elab.async false
set_option linter.all false
set_option autoImplicit false
set_option maxRecDepth 100000
set_option maxHeartbeats 4000000
/-! UL11: soundness of expressions. -/
namespace UL
open PySem PySem.Spec L2
theorem last2 {o p : CmpOp} {b c : Expr} (h : notSet c = true) : lastMarks [o, p] [b, c] = false := by
  show behindInMarks p c = false
  exact nomark' h
theorem call_xr {K : PySem.W.Frag} {mg : Str → Option Value} {tb : Tab} {sp : USp} {W : UW} {s : USt} {σ : L2.St} {us : List U} {G : UH} {vs : List V} {H H0 : Hp} {Q : VK} {Q0 : UK}
    (hs : SR K H s σ) (hg : HR K G H) (r : RUs K H us vs) (e0 : Ext H0 H) (h : sp us G Q0 fun xn G2 => W xn s G2)
    (k : ∀ u G' v H', Q0 u G' → RU K H' u v → HR K G' H' → Ext H0 H' → Q v H') : cSp K mg tb sp (vs ++ []) H Q (WE (cW K mg tb W) σ) := by
  rw [List.append_nil]
  exact ⟨us, G, Q0, _, r, hg, h, fun u G' v H' q r' g' e' => k u G' v H' q r' g' (e0.trans e'), fun xn G' cls d H' q x g' e' => ⟨xn, s, G', hs.ext e', g', x, q⟩⟩
theorem cmp_chain {K : PySem.W.Frag} {o1 o2 : CmpOp} {ta tb tc : UT} {σ : L2.St} {H : Hp} {Q : VK}
    (h : cE K (fun s G Q => ta s G fun x G1 => tb s G1 fun y G2 => uCmp o1 x y G2 fun z G3 => match z with
    | .bl k => if k = true then tc s G3 fun w G4 => uCmp o2 y w G4 Q else Q (.bl false) G3
    | _ => False) σ H Q) : tChain (c2 K (uCmp o1)) (c2 K (uCmp o2)) (cE K ta) (cE K tb) (cE K tc) σ H Q := by
  obtain ⟨s, G, Q0, hs, hg, h, k⟩ := h
  refine ⟨s, G, _, hs, hg, h, fun x G1 v H1 h1 r1 g1 e1 => ⟨s, G1, _, hs.ext e1, g1, h1, fun y G2 v2 H2 h2 r2 g2 e2 => ?_⟩⟩
  refine ⟨x, y, G2, _, RU.ext e2 r1, r2, g2, h2, fun z G3 v3 H3 h3 r3 g3 e3 => ?_⟩
  split at h3
  · rename_i kk
    cases r3
    refine ⟨kk, rfl, ?_⟩
    cases kk with
    | false => simp only [Bool.false_eq_true, if_false] at h3 ⊢; exact k _ G3 _ H3 h3 (.bl _) g3 ((e1.trans e2).trans e3)
    | true =>
      simp only [if_true] at h3 ⊢
      refine ⟨s, G3, _, hs.ext ((e1.trans e2).trans e3), g3, h3, fun w G4 v4 H4 h4 r4 g4 e4 => ?_⟩
      exact ⟨y, w, G4, Q0, RU.ext (e3.trans e4) r2, r4, g4, h4, fun z5 G5 v5 H5 h5 r5 g5 e5 => k z5 G5 v5 H5 h5 r5 g5 ((((e1.trans e2).trans e3).trans e4).trans e5)⟩
  · exact h3.elim
theorem cmp_chainT {K : PySem.W.Frag} {o1 o2 : CmpOp} {ta tb tc : UT} {σ : L2.St} {H : Hp} {Q : Bool → Hp → Prop}
    (h : cT K (fun s G Q => ta s G fun x G1 => tb s G1 fun y G2 => uCmp o1 x y G2 fun z G3 => match z with
    | .bl k => if k = true then tc s G3 fun w G4 => uCmp o2 y w G4 fun z2 G5 => (match z2 with
        | .bl k2 => Q k2 G5
        | _ => False) else Q false G3
    | _ => False) σ H Q) : tTest (tChain (c2 K (uCmp o1)) (c2 K (uCmp o2)) (cE K ta) (cE K tb) (cE K tc)) σ H Q := by
  obtain ⟨s, G, Q0, hs, hg, h, k⟩ := h
  refine ⟨s, G, _, hs, hg, h, fun x G1 v H1 h1 r1 g1 e1 => ⟨s, G1, _, hs.ext e1, g1, h1, fun y G2 v2 H2 h2 r2 g2 e2 => ?_⟩⟩
  refine ⟨x, y, G2, _, RU.ext e2 r1, r2, g2, h2, fun z G3 v3 H3 h3 r3 g3 e3 => ?_⟩
  split at h3
  · rename_i kk
    cases r3
    refine ⟨kk, rfl, ?_⟩
    cases kk with
    | false => simp only [Bool.false_eq_true, if_false] at h3 ⊢; exact ⟨false, rfl, k _ G3 H3 h3 g3 ((e1.trans e2).trans e3)⟩
    | true =>
      simp only [if_true] at h3 ⊢
      refine ⟨s, G3, _, hs.ext ((e1.trans e2).trans e3), g3, h3, fun w G4 v4 H4 h4 r4 g4 e4 => ?_⟩
      refine ⟨y, w, G4, _, RU.ext (e3.trans e4) r2, r4, g4, h4, fun z5 G5 v5 H5 h5 r5 g5 e5 => ?_⟩
      split at h5
      · cases r5
        exact ⟨_, rfl, k _ G5 H5 h5 g5 ((((e1.trans e2).trans e3).trans e4).trans e5)⟩
      · exact h5.elim
  · exact h3.elim
theorem pt_plain {X : Cx} {e : Expr} {t : UT} (h : plainT e = true) (p : PE X e (cE X.K t)) : PT X e (cT X.K fun s G Q => t s G fun x G1 => uTru x G1 Q) := by
  refine PT.weak (pt_truth p (plain_t h)) fun σ H Q q => ?_
  obtain ⟨s, G, Q0, hs, hg, q, k⟩ := q
  refine ⟨s, G, _, hs, hg, q, fun x G1 v H1 q1 r1 g1 e1 => ?_⟩
  obtain ⟨kk, e2, q2⟩ := tru_u g1 r1 q1
  exact ⟨kk, e2, k _ G1 H1 q2 g1 e1⟩
theorem one_a {X : Cx} {y : Expr} {t : UT} (p : PE X y (cE X.K t)) (n : notStar y = true) : PA X [y] (cA X.K fun s G Q => t s G fun u G1 => Q [u] G1) := by
  refine PA.weak (pa_cons p pa_nil (star_each n)) fun σ H Q q => ?_
  obtain ⟨s, G, Q0, hs, hg, q, k⟩ := q
  exact ⟨s, G, _, hs, hg, q, fun u G1 v H1 q1 r1 g1 e1 => k _ G1 _ H1 q1 (.cons r1 .nil) g1 e1⟩
theorem two_a {X : Cx} {y z : Expr} {t u : UT} (p : PE X y (cE X.K t)) (p2 : PE X z (cE X.K u)) (n : notStar y = true) (n2 : notStar z = true) : PA X [y, z] (cA X.K fun s G Q => t s G fun x G1 => u s G1 fun w G2 => Q [x, w] G2) := by
  refine PA.weak (pa_cons p (pa_cons p2 pa_nil (star_each n2)) (star_each n)) fun σ H Q q => ?_
  obtain ⟨s, G, Q0, hs, hg, q, k⟩ := q
  refine ⟨s, G, _, hs, hg, q, fun u G1 v H1 q1 r1 g1 e1 => ⟨s, G1, _, hs.ext e1, g1, q1, fun u2 G2 v2 H2 q2 r2 g2 e2 => ?_⟩⟩
  exact k _ G2 _ H2 q2 (.cons (RU.ext e2 r1) (.cons r2 .nil)) g2 (e1.trans e2)
theorem three_a {X : Cx} {y z w : Expr} {t u o : UT} (p : PE X y (cE X.K t)) (p2 : PE X z (cE X.K u)) (p3 : PE X w (cE X.K o)) (n : notStar y = true) (n2 : notStar z = true) (n3 : notStar w = true) :
    PA X [y, z, w] (cA X.K fun s G Q => t s G fun x G1 => u s G1 fun w G2 => o s G2 fun v G3 => Q [x, w, v] G3) := by
  refine PA.weak (pa_cons p (pa_cons p2 (pa_cons p3 pa_nil (star_each n3)) (star_each n2)) (star_each n)) fun σ H Q q => ?_
  obtain ⟨s, G, Q0, hs, hg, q, k⟩ := q
  refine ⟨s, G, _, hs, hg, q, fun u G1 v H1 q1 r1 g1 e1 => ⟨s, G1, _, hs.ext e1, g1, q1, fun u2 G2 v2 H2 q2 r2 g2 e2 => ⟨s, G2, _, hs.ext (e1.trans e2), g2, q2, fun u3 G3 v3 H3 q3 r3 g3 e3 => ?_⟩⟩⟩
  exact k _ G3 _ H3 q3 (.cons (RU.ext (e2.trans e3) r1) (.cons (RU.ext e3 r2) (.cons r3 .nil))) g3 ((e1.trans e2).trans e3)
theorem rlen_eq {i j c : Int} (h3 : 0 < c) : Builtin.Range.rangeSize i j c = (rlen i j c : Int) := by
  have hc : ¬ (c = 0) := by omega
  unfold Builtin.Range.rangeSize rlen
  rw [if_pos h3]
  have e1 : j - i + c - 1 = (j - i - 1) + c := by omega
  rw [e1, show (j - i - 1) + c = (j - i - 1) + c * 1 by omega, Int.add_mul_ediv_left _ _ hc]
  split
  · rename_i h
    have : 0 ≤ (j - i - 1) / c := Int.ediv_nonneg (by omega) (by omega)
    omega
  · rename_i h
    have : (j - i - 1) / c < 0 := Int.ediv_neg_of_neg_of_pos (by omega) h3
    omega
theorem rlen_le {i j c : Int} (h3 : 0 < c) : (rlen i j c : Int) ≤ (j - i).toNat := by
  unfold rlen
  have hc : ¬ (c = 0) := by omega
  have e1 : j - i + c - 1 = (j - i - 1) + c * 1 := by omega
  rw [e1, Int.add_mul_ediv_left _ _ hc]
  have : (j - i - 1) / c ≤ max (j - i - 1) (-1) := by
    by_cases h : 0 ≤ j - i - 1
    · have := Int.ediv_le_self c h
      omega
    · have : (j - i - 1) / c < 0 := Int.ediv_neg_of_neg_of_pos (by omega) h3
      omega
  omega
theorem rg_ok {i j c : Int} (h1 : small62 i) (h2 : small62 j) (h3 : 0 < c) (h4 : c < 1073741824) : RgC i j c (rlen i j c) := by
  unfold small62 at h1 h2
  refine ⟨by omega, by omega, ?_, rlen_eq h3⟩
  have l := rlen_le (i := i) (j := j) h3
  have hm : (rlen i j c : Int) * c ≤ (j - i).toNat + c := by
    by_cases h : i < j
    · have e := rlen_eq (i := i) (j := j) h3
      unfold Builtin.Range.rangeSize at e
      rw [if_pos h3, if_pos h] at e
      rw [← e, Int.add_mul, Int.one_mul]
      have := Int.ediv_mul_le (j - i - 1) (by omega : c ≠ 0)
      omega
    · have e := rlen_eq (i := i) (j := j) h3
      unfold Builtin.Range.rangeSize at e
      rw [if_pos h3, if_neg h] at e
      rw [← e]; omega
  unfold Builtin.Range.small
  rw [rlen_eq h3]
  simp only [Builtin.Range.rangeFitsLong, Bool.and_eq_true, Bool.or_eq_true, decide_eq_true_eq, beq_iff_eq, show c > 0 from h3, if_true]
  generalize hz : (rlen i j c : Int) * c = z at *
  omega
/-- a tuple, a list or a text: told when it is there -/
theorem pi_any {X : Cx} {tg l : Expr} {tl : TE} (hl : PE X l tl) : PI X tg l (fun σ H R => tl σ H fun x H1 => (∃ z, x = .str z ∧ R (Its z) H1) ∨ (∃ a, x = .ref a ∧ (∃ xs, SqL X.K H1 a xs) ∧ R (Itl X.K a) H1) ∨ ∃ a, x = .ref a ∧ (∃ xs, SqT X.K H1 a xs) ∧ R (Itt X.K a) H1) := by
  refine ⟨fun pins s σ H R I h => thn (hl.run pins s σ H _ I h) fun v s1 ⟨x, H1, I1, r1, q1⟩ => ?_⟩
  rcases q1 with ⟨z, e, q⟩ | ⟨a, e, ⟨xs, hq⟩, q⟩ | ⟨a, e, ⟨xs, hq⟩, q⟩ <;> subst e
  · obtain ⟨t, rfl⟩ := r1
    cases ha : z.cps.all (· < 128)
    · exact wpAny_pyIter_wide ha (pi_one (tk := s1.toks) I1 _ (turn_str _ z t "str_iterator" (.inr rfl)) ⟨_, Heap.get?_push_size _ rfl, rfl, rfl⟩ q)
    · exact wpAny_pyIter_ascii ha (pi_one (tk := s1.toks) I1 _ (turn_str _ z t "str_ascii_iterator" (.inl rfl)) ⟨_, Heap.get?_push_size _ rfl, rfl, rfl⟩ q)
  · cases r1
    obtain ⟨its, rv, p, hz⟩ := I1.list hq
    exact wpAny_pyIter_list p.isList (pi_one (tk := s1.toks) I1 _ (turn_list a _) ⟨_, Heap.get?_push_size _ rfl, rfl, rfl⟩ q)
  · cases r1
    obtain ⟨its, rv, p, hz⟩ := I1.tuple hq
    exact wpAny_pyIter_tuple (show s1.heap.IsTuple a its.toArray from p) (pi_one (tk := s1.toks) I1 _ (turn_tuple a _) ⟨_, Heap.get?_push_size _ rfl, rfl, rfl⟩ q)
theorem val_ok {X : Cx} {tg e : Expr} {t : UT} (p : PE X e (cE X.K t)) : PI X tg e (cI X.K fun s G R => t s G fun x G1 => match x with
    | .str z => R [] (z.cps.toList.map fun c => U.str ⟨#[c]⟩) G1
    | x => seqOf x G1 fun ds us => R ds us G1) := by
  refine PI.weak (pi_any p) fun σ H R q => ?_
  obtain ⟨s, G, R0, hs, hg, q, k⟩ := q
  refine ⟨s, G, _, hs, hg, q, fun u G1 v H1 q1 r1 g1 e1 => ?_⟩
  split at q1
  · cases r1
    exact .inl ⟨_, rfl, k _ _ _ _ _ q1 g1 e1 (it_str _)⟩
  · obtain ⟨kk, a, xs, ds, us, rfl, hq, q2, dk, st⟩ := seq_of g1 r1 q1
    have ir : ItRel X.K H1 (match kk with | true => Itt X.K a | false => Itl X.K a) ds us := by
      cases kk
      · refine ⟨fun i G H hg d e hi => ?_, fun i G H x H' hg d e y hi => ?_, fun G H hg d e => ?_⟩
        · obtain ⟨ys, h1, r⟩ := st G H hg d e
          rw [r.length] at hi
          exact ⟨ys, ys[i], h1, by simp [hi]⟩
        · obtain ⟨ys, h1, r⟩ := st G H hg d e
          obtain ⟨rfl, y⟩ := y
          obtain ⟨u, h2, h3⟩ := r.get' (y ys h1)
          exact ⟨u, h2, h3, hg, .refl⟩
        · obtain ⟨ys, h1, r⟩ := st G H hg d e
          exact ⟨ys, h1, by rw [r.length]; exact Nat.le_refl _⟩
      · refine ⟨fun i G H hg d e hi => ?_, fun i G H x H' hg d e y hi => ?_, fun G H hg d e => ?_⟩
        · obtain ⟨ys, h1, r⟩ := st G H hg d e
          rw [r.length] at hi
          exact ⟨ys, ys[i], h1, by simp [hi]⟩
        · obtain ⟨ys, h1, r⟩ := st G H hg d e
          obtain ⟨rfl, y⟩ := y
          obtain ⟨u, h2, h3⟩ := r.get' (y ys h1)
          exact ⟨u, h2, h3, hg, .refl⟩
        · obtain ⟨ys, h1, r⟩ := st G H hg d e
          exact ⟨ys, h1, by rw [r.length]; exact Nat.le_refl _⟩
    have q3 := k _ _ _ _ _ q2 g1 e1 ir
    cases kk
    · exact .inr (.inl ⟨a, rfl, ⟨xs, hq⟩, q3⟩)
    · exact .inr (.inr ⟨a, rfl, ⟨xs, hq⟩, q3⟩)
section
variable {tb : Tab} {Γ : Gam}
mutual
theorem sE : ∀ (e : Ex) {X : Cx} {sc : Scope}, CtxOk X sc tb Γ → ∀ (W : UW), Takes X (cW X.K X.mg tb W) → ∀ ex : Expr, chkE X.N sc tb e ex = true → PE X ex (cE X.K (trE Γ W e))
  | .var i, X, sc, C, W, tk, ex, h => by
    unfold chkE at h
    split at h
    · simp only [Bool.and_eq_true, decide_eq_true_eq, Bool.not_eq_true'] at h
      obtain ⟨⟨⟨h1, h2⟩, h3⟩, h4⟩ := h
      exact PE.weak (pe_var h1 (C.sco.vis _ h2) h3 h4) fun σ H Q => cVar
    · cases h
  | .int i, X, sc, C, W, tk, ex, h => by
    unfold chkE at h
    split at h
    · rw [decide_eq_true_eq] at h
      subst h
      exact PE.weak pe_int fun σ H Q q => cC (fun _ => .int _) q
    · cases h
  | .bl i, X, sc, C, W, tk, ex, h => by
    unfold chkE at h
    split at h
    · rw [decide_eq_true_eq] at h
      subst h
      exact PE.weak pe_bl fun σ H Q q => cC (fun _ => .bl _) q
    · cases h
  | .non, X, sc, C, W, tk, ex, h => by
    unfold chkE at h
    split at h
    · exact PE.weak pe_non fun σ H Q q => cC (fun _ => .non) q
    · cases h
  | .str i, X, sc, C, W, tk, ex, h => by
    unfold chkE at h
    split at h
    · rw [decide_eq_true_eq] at h
      subst h
      exact PE.weak pe_str fun σ H Q q => cC (fun _ => .str _) q
    · cases h
  | .gl i, X, sc, C, W, tk, ex, h => by
    unfold chkE at h
    split at h
    · simp only [Bool.and_eq_true, decide_eq_true_eq] at h
      obtain ⟨w, v, hm, r, ru, db⟩ := C.gls i _ h.1
      exact PE.weak (pe_glob (C.sco.gl _ h.2) hm r db) fun σ H Q q => cC ru q
    · cases h
  | .ty n, X, sc, C, W, tk, ex, h => by
    unfold chkE at h
    split at h
    · simp only [Bool.and_eq_true, decide_eq_true_eq, Bool.not_eq_true'] at h
      obtain ⟨⟨⟨⟨h1, h2⟩, h3⟩, h4⟩, h5⟩ := h
      exact PE.weak (pe_bltn (v := .ty n) (C.sco.gl _ h1) (C.blt _ h2) h3 rfl h4 h5) fun σ H Q q => cC (fun _ => .ty n) q
    · cases h
  | .bin op a b, X, sc, C, W, tk, ex, h => by
    unfold chkE at h
    split at h
    · simp only [Bool.and_eq_true, decide_eq_true_eq] at h
      obtain ⟨⟨h1, h2⟩, h3⟩ := h
      subst h1
      exact PE.weak (pe_op (op_any op) (sE a C W tk _ h2) (sE b C W tk _ h3)) fun σ H Q => cOp
    · cases h
  | .neg a, X, sc, C, W, tk, ex, h => by
    unfold chkE at h
    split at h
    · exact PE.weak (pe_un un_uNeg (sE a C W tk _ h)) fun σ H Q q => cUn (r := uNeg) (ta := trE Γ W a) q
    · cases h
  | .not a, X, sc, C, W, tk, ex, h => by
    unfold chkE at h
    split at h
    · refine PE.weak (pe_notT (sE a C W tk _ h)) fun σ H Q q => ?_
      obtain ⟨s, G, Q0, hs, hg, q, k⟩ := q
      refine ⟨s, G, _, hs, hg, q, fun x G1 v H1 h1 r1 g1 e1 => ?_⟩
      obtain ⟨kk, e2, q2⟩ := tru_u g1 r1 h1
      exact ⟨kk, e2, k _ G1 _ H1 q2 (.bl _) g1 e1⟩
    · cases h
  | .cmp op a b, X, sc, C, W, tk, ex, h => by
    unfold chkE at h
    split at h
    · simp only [Bool.and_eq_true, decide_eq_true_eq] at h
      obtain ⟨⟨⟨h1, h2⟩, h3⟩, h4⟩ := h
      subst h1
      exact PE.weak (pe_cmpR (cmp_any C.hu op) (sE a C W tk _ h3) (sE b C W tk _ h4) (nomark' h2)) fun σ H Q => cOp
    · cases h
  | .chain o1 o2 a b c, X, sc, C, W, tk, ex, h => by
    unfold chkE at h
    split at h
    · simp only [Bool.and_eq_true, decide_eq_true_eq] at h
      obtain ⟨⟨⟨⟨⟨⟨h1, h2⟩, h3⟩, h4⟩, h5⟩, h6⟩, h7⟩ := h
      subst h1 h2
      exact PE.weak (pe_chain (cmp_any C.hu o1) (cmp_any C.hu o2) (sE a C W tk _ h5) (sE b C W tk _ h6) (sE c C W tk _ h7) (last2 h4)) fun σ H Q => cmp_chain
    · cases h
  | .and a b, X, sc, C, W, tk, ex, h => by
    unfold chkE at h
    split at h
    · rename_i x y rest pos
      simp only [Bool.and_eq_true] at h
      obtain ⟨h1, h2⟩ := h
      have hb : PE X (.BoolOp .And (y :: rest) pos) (cE X.K (trE Γ W b)) := by
        split at h2
        · exact pe_one (sE b C W tk _ h2)
        · exact sE b C W tk _ h2
      refine PE.weak (pe_andT (sE a C W tk _ h1) hb) fun σ H Q q => ?_
      obtain ⟨s, G, Q0, hs, hg, q, k⟩ := q
      refine ⟨s, G, _, hs, hg, q, fun x G1 v H1 h1 r1 g1 e1 => ?_⟩
      obtain ⟨kk, e2, q2⟩ := tru_u g1 r1 h1
      refine ⟨kk, e2, ?_⟩
      cases kk with
      | false => simp only [Bool.false_eq_true, if_false] at q2 ⊢; exact k _ G1 _ H1 q2 r1 g1 e1
      | true =>
        simp only [if_true] at q2 ⊢
        exact ⟨s, G1, Q0, hs.ext e1, g1, q2, fun u G' v H' q' r' g' e' => k u G' v H' q' r' g' (e1.trans e')⟩
    · cases h
  | .or a b, X, sc, C, W, tk, ex, h => by
    unfold chkE at h
    split at h
    · rename_i x y rest pos
      simp only [Bool.and_eq_true] at h
      obtain ⟨h1, h2⟩ := h
      have hb : PE X (.BoolOp .Or (y :: rest) pos) (cE X.K (trE Γ W b)) := by
        split at h2
        · exact pe_one (sE b C W tk _ h2)
        · exact sE b C W tk _ h2
      refine PE.weak (pe_orT (sE a C W tk _ h1) hb) fun σ H Q q => ?_
      obtain ⟨s, G, Q0, hs, hg, q, k⟩ := q
      refine ⟨s, G, _, hs, hg, q, fun x G1 v H1 h1 r1 g1 e1 => ?_⟩
      obtain ⟨kk, e2, q2⟩ := tru_u g1 r1 h1
      refine ⟨kk, e2, ?_⟩
      cases kk with
      | true => simp only [if_true] at q2 ⊢; exact k _ G1 _ H1 q2 r1 g1 e1
      | false =>
        simp only [Bool.false_eq_true, if_false] at q2 ⊢
        exact ⟨s, G1, Q0, hs.ext e1, g1, q2, fun u G' v H' q' r' g' e' => k u G' v H' q' r' g' (e1.trans e')⟩
    · cases h
  | .ife c a b, X, sc, C, W, tk, ex, h => by
    unfold chkE at h
    split at h
    · simp only [Bool.and_eq_true] at h
      obtain ⟨⟨h1, h2⟩, h3⟩ := h
      refine PE.weak (pe_ifExp (sT c C W tk _ h1) (sE a C W tk _ h2) (sE b C W tk _ h3)) fun σ H Q q => ?_
      obtain ⟨s, G, Q0, hs, hg, q, k⟩ := q
      refine ⟨s, G, _, hs, hg, q, fun kk G1 H1 q1 g1 e1 => ?_⟩
      cases kk with
      | true =>
        simp only [if_true] at q1 ⊢
        exact ⟨s, G1, Q0, hs.ext e1, g1, q1, fun u G' v H' q' r' g' e' => k u G' v H' q' r' g' (e1.trans e')⟩
      | false =>
        simp only [Bool.false_eq_true, if_false] at q1 ⊢
        exact ⟨s, G1, Q0, hs.ext e1, g1, q1, fun u G' v H' q' r' g' e' => k u G' v H' q' r' g' (e1.trans e')⟩
    · cases h
  | .tup es, X, sc, C, W, tk, ex, h => by
    unfold chkE at h
    split at h
    · refine PE.weak (pe_tup (sA es C W tk _ h)) fun σ H Q q => ?_
      obtain ⟨s, G, Q0, hs, hg, q, k⟩ := q
      refine ⟨s, G, _, hs, hg, q, fun us G1 vs H1 q1 r1 g1 e1 => ⟨by rw [← r1.length]; exact q1.1, fun p hp => ?_⟩⟩
      obtain ⟨e2, g2, r2⟩ := g1.newTup hp r1
      exact k _ G1 _ _ q1.2 r2 g2 (e1.trans e2)
    · cases h
  | .lst es, X, sc, C, W, tk, ex, h => by
    unfold chkE at h
    split at h
    · refine PE.weak (pe_lst (sA es C W tk _ h)) fun σ H Q q => ?_
      obtain ⟨s, G, Q0, hs, hg, q, k⟩ := q
      refine ⟨s, G, _, hs, hg, q, fun us G1 vs H1 q1 r1 g1 e1 => ⟨by rw [← r1.length]; exact q1.1, fun p hp => ?_⟩⟩
      obtain ⟨e2, g2⟩ := g1.newLst hp r1
      exact k _ _ _ _ (q1.2 p (g1.fresh hp)) (.ref p) g2 (e1.trans e2)
    · cases h
  | .call f es, X, sc, C, W, tk, ex, h => by
    unfold chkE at h
    split at h
    · simp only [Bool.and_eq_true, decide_eq_true_eq] at h
      obtain ⟨⟨h1, h2⟩, h3⟩ := h
      obtain ⟨⟨k0, fa, fd, ps, hm, kp, hr, hb, F⟩, db⟩ := C.fns f _ h1
      have st := chkA_star h3
      simp only [List.all_cons, Bool.and_eq_true] at st
      refine PE.weak (pe_callSD F hr (C.sco.gl _ h2) hm kp hb .nil (fun σ => passAt tk σ) (sA es C W tk _ h3) db (star_each st.1) (star_any st.2)) fun σ H Q q => ?_
      obtain ⟨s, G, Q0, hs, hg, q, k⟩ := q
      exact ⟨s, G, _, hs, hg, q, fun us G1 vs H1 q1 r1 g1 e1 => call_xr (hs.ext e1) g1 r1 e1 q1 k⟩
    · simp only [Bool.and_eq_true, decide_eq_true_eq] at h
      obtain ⟨⟨h1, h2⟩, h3⟩ := h
      obtain ⟨⟨k0, fa, fd, ps, hm, kp, hr, hb, F⟩, db⟩ := C.fns f _ h1
      cases es with
      | nil =>
        refine PE.weak (pe_callSD0 F hr (C.sco.gl _ h2) hm kp hb (fun σ => passAt tk σ) db) fun σ H Q q => ?_
        obtain ⟨s, G, Q0, hs, hg, q, k⟩ := q
        exact call_xr hs hg .nil .refl q k
      | cons _ _ => cases h3
    · cases h
  | .blt b es, X, sc, C, W, tk, ex, h => by
    unfold chkE at h
    split at h
    · simp only [Bool.and_eq_true, decide_eq_true_eq] at h
      obtain ⟨⟨h1, h2⟩, h3⟩ := h
      subst h1
      have st := chkA_star h3
      simp only [List.all_cons, Bool.and_eq_true] at st
      refine PE.weak (Blt.pe C.calm (C.sco.gl _ h2) (C.blt _ b.nm_mem) (sA es C W tk _ h3) (star_each st.1) (star_any st.2)) fun σ H Q q => ?_
      obtain ⟨s, G, Q0, hs, hg, q, k⟩ := q
      exact ⟨s, G, _, hs, hg, q, fun us G1 vs H1 q1 r1 g1 e1 => ⟨us, G1, Q0, r1, g1, q1, fun u G' v H' q' r' g' e' => k u G' v H' q' r' g' (e1.trans e')⟩⟩
    · cases h
  | .mth m o es, X, sc, C, W, tk, ex, h => by
    unfold chkE at h
    split at h
    · rename_i r nm ap y ys cp
      simp only [Bool.and_eq_true, decide_eq_true_eq] at h
      obtain ⟨⟨⟨⟨⟨h1, h2⟩, h3⟩, h4⟩, h5⟩, h6⟩ := h
      subst h1
      have st := chkA_star h6
      have st' := st
      simp only [List.all_cons, Bool.and_eq_true] at st
      refine PE.weak (pe_bm m.pa m.slot m.hty m.ok (sE o C W tk _ h5) (sA es C W tk _ h6) (plain_o h2) ?_ h3 (star_each st.1) (star_any st.2)) fun σ H Q q => ?_
      · rw [star_all st']
        show (true && true && decide (_ + 0 + 0 < 30)) = true
        simp only [Bool.and_self, Bool.true_and, decide_eq_true_eq]
        simp only [List.length_cons] at h4 ⊢
        omega
      · obtain ⟨s, G, Q0, hs, hg, q, k⟩ := q
        refine ⟨s, G, _, hs, hg, q, fun x G1 v H1 q1 r1 g1 e1 => ⟨mTy_of g1 r1 q1.1, s, G1, _, hs.ext e1, g1, q1.2, fun us G2 vs H2 q2 r2 g2 e2 => ?_⟩⟩
        exact ⟨x, us, G2, Q0, RU.ext e2 r1, r2, g2, q2, fun u G' v H' q' r' g' e' => k u G' v H' q' r' g' ((e1.trans e2).trans e')⟩
    · simp only [Bool.and_eq_true, decide_eq_true_eq] at h
      obtain ⟨⟨⟨⟨h1, h2⟩, h3⟩, h5⟩, h6⟩ := h
      subst h1
      cases es with
      | nil =>
        refine PE.weak (pe_bm0 m.pa m.slot m.hty m.ok (sE o C W tk _ h5) (plain_o h2) h3) fun σ H Q q => ?_
        obtain ⟨s, G, Q0, hs, hg, q, k⟩ := q
        refine ⟨s, G, _, hs, hg, q, fun x G1 v H1 q1 r1 g1 e1 => ⟨mTy_of g1 r1 q1.1, ?_⟩⟩
        exact ⟨x, [], G1, Q0, r1, .nil, g1, q1.2, fun u G' v H' q' r' g' e' => k u G' v H' q' r' g' (e1.trans e')⟩
      | cons _ _ => cases h6
    · cases h
  | .ix o i, X, sc, C, W, tk, ex, h => by
    unfold chkE at h
    split at h
    · simp only [Bool.and_eq_true] at h
      obtain ⟨⟨h1, h2⟩, h3⟩ := h
      exact PE.weak (pe_ix (ix_u (by have := C.hu; omega)) (sE o C W tk _ h2) (sE i C W tk _ h3) (plain_ix h1)) fun σ H Q => cOp
    · cases h
  | .sl o lo hi, X, sc, C, W, tk, ex, h => by
    unfold chkE at h
    split at h
    · simp only [Bool.and_eq_true] at h
      obtain ⟨⟨h1, h2⟩, h3⟩ := h
      refine PE.weak (pe_slice sl_u (sE o C W tk _ h1) (sO lo C W tk _ h2) (sO hi C W tk _ h3)) fun σ H Q q => ?_
      obtain ⟨s, G, Q0, hs, hg, q, k⟩ := q
      refine ⟨s, G, _, hs, hg, q, fun x G1 v H1 q1 r1 g1 e1 => ⟨s, G1, _, hs.ext e1, g1, q1, fun l G2 H2 q2 g2 e2 => ⟨s, G2, _, hs.ext (e1.trans e2), g2, q2, fun l2 G3 H3 q3 g3 e3 => ?_⟩⟩⟩
      exact ⟨x, G3, Q0, RU.ext (e2.trans e3) r1, g3, q3, fun u G' v H' q' r' g' e' => k u G' v H' q' r' g' (((e1.trans e2).trans e3).trans e')⟩
    · cases h
  | .lc elt tg it c, X, sc, C, W, tk, ex, h => by
    unfold chkE at h
    split at h
    · rename_i el t i ifs scope pos
      simp only [Bool.and_eq_true] at h
      obtain ⟨⟨⟨⟨⟨h1, h2⟩, h3⟩, h4⟩, h5⟩, h6⟩ := h
      have P := pe_lc (pos := pos) (g := cG X.K (slotsG tg) (trG tg)) (te := cE X.K (trE Γ (fun _ _ _ => False) elt)) (tt := cT X.K (trC Γ (fun _ _ _ => False) c)) C.calm C.nd (sI it C W tk t i h3) (blk_ok C h2) (fun s H Cc cl fp => sG (C.blk s H scope Cc cl fp) tg t h4)
        (fun s H Cc cl fp => sC c (C.blk s H scope Cc cl fp) (fun _ _ _ => False) (takes_false fun _ _ _ _ z => by obtain ⟨_, _, _, _, _, _, z⟩ := z; exact z) ifs h5)
        (fun s H Cc cl fp => sE elt (C.blk s H scope Cc cl fp) (fun _ _ _ => False) (takes_false fun _ _ _ _ z => by obtain ⟨_, _, _, _, _, _, z⟩ := z; exact z) el h6) (not_set h1)
      rw [own_snd] at P
      exact PE.weak P fun σ H Q => lc_conv
    · cases h
  | .maxd e c, X, sc, C, W, tk, ex, h => by
    unfold chkE at h
    split at h
    · simp only [Bool.and_eq_true, decide_eq_true_eq] at h
      obtain ⟨⟨⟨⟨⟨h1, h2⟩, h3⟩, h4⟩, h5⟩, h6⟩ := h
      subst h2
      refine PE.weak (pe_maxD C.calm C.hu (C.sco.gl _ h3) (C.blt _ (by rw [h1]; decide)) h1 (sE e C W tk _ h5) (sE c C W tk _ h6) (star_each h4)) fun σ H Q q => ?_
      obtain ⟨s, G, Q0, hs, hg, q, k⟩ := q
      refine ⟨s, G, _, hs, hg, q, fun x G1 v H1 q1 r1 g1 e1 => ⟨s, G1, _, hs.ext e1, g1, q1, fun d G2 u H2 q2 r2 g2 e2 => ?_⟩⟩
      unfold uMaxD at q2
      split at q2
      · cases RU.ext e2 r1
        cases r2
        split at q2
        · rename_i us hG
          obtain ⟨xs, h8, r8⟩ := g2.lst hG
          split at q2
          · rename_i ns hns
            exact ⟨_, ns, _, rfl, rfl, maxD_sq h8 r8 hns, k _ G2 _ H2 q2 (.int _) g2 (e1.trans e2)⟩
          · exact q2.elim
        · exact q2.elim
      · exact q2.elim
    · cases h
  | .stp o c, X, sc, C, W, tk, ex, h => by
    unfold chkE at h
    split at h
    · simp only [Bool.and_eq_true] at h
      exact PE.weak (pe_step (sE o C W tk _ h.1) (sE c C W tk _ h.2)) fun σ H Q q => cStp (ta := trE Γ W o) (tb := trE Γ W c) q
    · cases h
  | .lc2 elt tg it c tg1 it1 c1, X, sc, C, W, tk, ex, h => by
    unfold chkE at h
    split at h
    · rename_i el t i ifs t1 i1 ifs1 scope pos
      simp only [Bool.and_eq_true] at h
      obtain ⟨⟨⟨⟨⟨⟨⟨⟨⟨h1, h1'⟩, h2⟩, h3⟩, h4⟩, h5⟩, h6⟩, h7⟩, h8⟩, h9⟩ := h
      have tf : ∀ s H Cc cl fp, Takes (X.blk s H scope (compEnvC scope cl Cc X.env) fp) (cW X.K X.mg tb (fun _ _ _ => False)) := fun s H Cc cl fp => takes_false fun _ _ _ _ z => by obtain ⟨_, _, _, _, _, _, z⟩ := z; exact z
      have P := pe_lc2 (pos := pos) (vs1 := slotsG tg1) (g := cG X.K (slotsG tg) (trG tg)) (g1 := cG X.K (slotsG tg1) (trG tg1)) (te := cE X.K (trE Γ (fun _ _ _ => False) elt)) (tt := cT X.K (trC Γ (fun _ _ _ => False) c)) (tt1 := cT X.K (trC Γ (fun _ _ _ => False) c1)) (wi1 := cI X.K (trI Γ (fun _ _ _ => False) it1)) C.calm C.nd (sI it C W tk t i h3) (blk_ok C h2)
        (by rw [own_snd]; exact fun i hi => List.mem_append_right _ hi)
        (fun s H Cc cl fp => sG (C.blk s H scope Cc cl fp) tg t h4) (fun s H Cc cl fp => sC c (C.blk s H scope Cc cl fp) (fun _ _ _ => False) (tf s H Cc cl fp) ifs h5)
        (fun s H Cc cl fp => sI it1 (C.blk s H scope Cc cl fp) (fun _ _ _ => False) (tf s H Cc cl fp) t1 i1 h6)
        (fun s H Cc cl fp => sG (C.blk s H scope Cc cl fp) tg1 t1 h7) (fun s H Cc cl fp => sC c1 (C.blk s H scope Cc cl fp) (fun _ _ _ => False) (tf s H Cc cl fp) ifs1 h8)
        (fun s H Cc cl fp => sE elt (C.blk s H scope Cc cl fp) (fun _ _ _ => False) (tf s H Cc cl fp) el h9) (not_set h1) (fun env x => not_set (env := env) h1' x)
      rw [own_snd] at P
      exact PE.weak P fun σ H Q => lc2_conv
    · cases h
theorem sA : ∀ (es : Exs) {X : Cx} {sc : Scope}, CtxOk X sc tb Γ → ∀ (W : UW), Takes X (cW X.K X.mg tb W) → ∀ xs : List Expr, chkA X.N sc tb es xs = true → PA X xs (cA X.K (trA Γ W es))
  | .nil, X, sc, C, W, tk, [], h => by
    refine PA.weak pa_nil fun σ H Q q => ?_
    obtain ⟨s, G, Q0, hs, hg, q, k⟩ := q
    exact k _ G _ H q .nil hg .refl
  | .nil, X, sc, C, W, tk, _ :: _, h => by cases h
  | .cons _ _, X, sc, C, W, tk, [], h => by cases h
  | .cons e es, X, sc, C, W, tk, x :: xs, h => by
    simp only [chkA, Bool.and_eq_true] at h
    refine PA.weak (pa_cons (sE e C W tk _ h.1.2) (sA es C W tk _ h.2) (star_each h.1.1)) fun σ H Q q => ?_
    obtain ⟨s, G, Q0, hs, hg, q, k⟩ := q
    refine ⟨s, G, _, hs, hg, q, fun u G1 v H1 q1 r1 g1 e1 => ⟨s, G1, _, hs.ext e1, g1, q1, fun us G2 vs H2 q2 r2 g2 e2 => ?_⟩⟩
    exact k _ G2 _ H2 q2 (.cons (RU.ext e2 r1) r2) g2 (e1.trans e2)
theorem sO : ∀ (o : Exo) {X : Cx} {sc : Scope}, CtxOk X sc tb Γ → ∀ (W : UW), Takes X (cW X.K X.mg tb W) → ∀ x : Option Expr, chkO X.N sc tb o x = true → PO X x (cO X.K (trO Γ W o))
  | .no, X, sc, C, W, tk, none, h => by
    refine PO.weak po_none fun σ H Q q => ?_
    obtain ⟨s, G, Q0, hs, hg, q, k⟩ := q
    exact k _ G H q hg .refl
  | .no, X, sc, C, W, tk, some _, h => by cases h
  | .yes _, X, sc, C, W, tk, none, h => by cases h
  | .yes e, X, sc, C, W, tk, some x, h => by
    refine PO.weak (po_some (sE e C W tk x h)) fun σ H Q q => ?_
    obtain ⟨s, G, Q0, hs, hg, q, k⟩ := q
    refine ⟨s, G, _, hs, hg, q, fun u G1 v H1 q1 r1 g1 e1 => ?_⟩
    split at q1
    · cases r1
      exact ⟨_, rfl, k _ G1 H1 q1 g1 e1⟩
    · exact q1.elim
theorem sC : ∀ (o : Exo) {X : Cx} {sc : Scope}, CtxOk X sc tb Γ → ∀ (W : UW), Takes X (cW X.K X.mg tb W) → ∀ x : List Expr, chkC X.N sc tb o x = true → PTs X x (cT X.K (trC Γ W o))
  | .no, X, sc, C, W, tk, [], h => by
    refine PTs.weak pts_nil fun σ H Q q => ?_
    obtain ⟨s, G, Q0, hs, hg, q, k⟩ := q
    exact k _ G H q hg .refl
  | .no, X, sc, C, W, tk, _ :: _, h => by cases h
  | .yes _, X, sc, C, W, tk, [], h => by cases h
  | .yes e, X, sc, C, W, tk, [x], h => pts_one (sT e C W tk x h)
  | .yes _, X, sc, C, W, tk, _ :: _ :: _, h => by cases h
theorem sT : ∀ (e : Ex) {X : Cx} {sc : Scope}, CtxOk X sc tb Γ → ∀ (W : UW), Takes X (cW X.K X.mg tb W) → ∀ ex : Expr, chkE X.N sc tb e ex = true → PT X ex (cT X.K (trT Γ W e))
  | .not a, X, sc, C, W, tk, ex, h => by
    unfold chkE at h
    split at h
    · refine PT.weak (pt_not (sT a C W tk _ h)) fun σ H Q q => ?_
      obtain ⟨s, G, Q0, hs, hg, q, k⟩ := q
      exact ⟨s, G, _, hs, hg, q, fun b G1 H1 q1 g1 e1 => k _ G1 H1 q1 g1 e1⟩
    · cases h
  | .and a b, X, sc, C, W, tk, ex, h => by
    unfold chkE at h
    split at h
    · rename_i x y rest pos
      simp only [Bool.and_eq_true] at h
      obtain ⟨h1, h2⟩ := h
      have hb : PW X (.BoolOp .And (y :: rest) pos) (cT X.K (trT Γ W b)) := by
        split at h2
        · exact pw_and1 (sT b C W tk _ h2)
        · exact pw_of (sT b C W tk _ h2)
      refine PT.weak (pw_and (sT a C W tk _ h1) hb).pt fun σ H Q q => ?_
      obtain ⟨s, G, Q0, hs, hg, q, k⟩ := q
      refine ⟨s, G, _, hs, hg, q, fun kk G1 H1 q1 g1 e1 => ?_⟩
      cases kk with
      | false => simp only [Bool.false_eq_true, if_false] at q1 ⊢; exact k _ G1 H1 q1 g1 e1
      | true =>
        simp only [if_true] at q1 ⊢
        exact ⟨s, G1, Q0, hs.ext e1, g1, q1, fun u G' H' q' g' e' => k u G' H' q' g' (e1.trans e')⟩
    · cases h
  | .or a b, X, sc, C, W, tk, ex, h => by
    unfold chkE at h
    split at h
    · rename_i x y rest pos
      simp only [Bool.and_eq_true] at h
      obtain ⟨h1, h2⟩ := h
      have hb : PW X (.BoolOp .Or (y :: rest) pos) (cT X.K (trT Γ W b)) := by
        split at h2
        · exact pw_or1 (sT b C W tk _ h2)
        · exact pw_of (sT b C W tk _ h2)
      refine PT.weak (pw_or (sT a C W tk _ h1) hb).pt fun σ H Q q => ?_
      obtain ⟨s, G, Q0, hs, hg, q, k⟩ := q
      refine ⟨s, G, _, hs, hg, q, fun kk G1 H1 q1 g1 e1 => ?_⟩
      cases kk with
      | true => simp only [if_true] at q1 ⊢; exact k _ G1 H1 q1 g1 e1
      | false =>
        simp only [Bool.false_eq_true, if_false] at q1 ⊢
        exact ⟨s, G1, Q0, hs.ext e1, g1, q1, fun u G' H' q' g' e' => k u G' H' q' g' (e1.trans e')⟩
    · cases h
  | .cmp op a b, X, sc, C, W, tk, ex, h => by
    unfold chkE at h
    split at h
    · simp only [Bool.and_eq_true, decide_eq_true_eq] at h
      obtain ⟨⟨⟨h1, h2⟩, h3⟩, h4⟩ := h
      subst h1
      refine PT.weak (pt_cmpR (cmp_any C.hu op) (sE a C W tk _ h3) (sE b C W tk _ h4) (nomark' h2)) fun σ H Q q => ?_
      obtain ⟨s, G, Q0, hs, hg, q, k⟩ := q
      refine ⟨s, G, _, hs, hg, q, fun x G1 v H1 q1 r1 g1 e1 => ⟨s, G1, _, hs.ext e1, g1, q1, fun y G2 v2 H2 q2 r2 g2 e2 => ?_⟩⟩
      refine ⟨x, y, G2, _, RU.ext e2 r1, r2, g2, q2, fun z G3 v3 H3 q3 r3 g3 e3 => ?_⟩
      split at q3
      · cases r3
        exact ⟨_, rfl, k _ G3 H3 q3 g3 ((e1.trans e2).trans e3)⟩
      · exact q3.elim
    · cases h
  | .chain o1 o2 a b c, X, sc, C, W, tk, ex, h => by
    unfold chkE at h
    split at h
    · simp only [Bool.and_eq_true, decide_eq_true_eq] at h
      obtain ⟨⟨⟨⟨⟨⟨h1, h2⟩, h3⟩, h4⟩, h5⟩, h6⟩, h7⟩ := h
      subst h1 h2
      exact PT.weak (pt_chain (cmp_any C.hu o1) (cmp_any C.hu o2) (sE a C W tk _ h5) (sE b C W tk _ h6) (sE c C W tk _ h7) (last2 h4)) fun σ H Q => cmp_chainT
    · cases h
  | .ife _ _ _, X, sc, C, W, tk, ex, h => ⟨fun pins s σ H Q I q => by
    obtain ⟨_, _, _, _, _, q, _⟩ := q
    exact q.elim⟩
  | .var i, X, sc, C, W, tk, ex, h => pt_plain (by unfold chkE at h; split at h; rfl; cases h) (sE (.var i) C W tk ex h)
  | .int i, X, sc, C, W, tk, ex, h => pt_plain (by unfold chkE at h; split at h; rfl; cases h) (sE (.int i) C W tk ex h)
  | .bl i, X, sc, C, W, tk, ex, h => pt_plain (by unfold chkE at h; split at h; rfl; cases h) (sE (.bl i) C W tk ex h)
  | .non, X, sc, C, W, tk, ex, h => pt_plain (by unfold chkE at h; split at h; rfl; cases h) (sE .non C W tk ex h)
  | .str i, X, sc, C, W, tk, ex, h => pt_plain (by unfold chkE at h; split at h; rfl; cases h) (sE (.str i) C W tk ex h)
  | .gl i, X, sc, C, W, tk, ex, h => pt_plain (by unfold chkE at h; split at h; rfl; cases h) (sE (.gl i) C W tk ex h)
  | .ty i, X, sc, C, W, tk, ex, h => pt_plain (by unfold chkE at h; split at h; rfl; cases h) (sE (.ty i) C W tk ex h)
  | .bin op a b, X, sc, C, W, tk, ex, h => pt_plain (by unfold chkE at h; split at h; rfl; cases h) (sE (.bin op a b) C W tk ex h)
  | .neg a, X, sc, C, W, tk, ex, h => pt_plain (by unfold chkE at h; split at h; rfl; cases h) (sE (.neg a) C W tk ex h)
  | .tup es, X, sc, C, W, tk, ex, h => pt_plain (by unfold chkE at h; split at h; rfl; cases h) (sE (.tup es) C W tk ex h)
  | .lst es, X, sc, C, W, tk, ex, h => pt_plain (by unfold chkE at h; split at h; rfl; cases h) (sE (.lst es) C W tk ex h)
  | .call f es, X, sc, C, W, tk, ex, h => pt_plain (by unfold chkE at h; split at h; rfl; rfl; cases h) (sE (.call f es) C W tk ex h)
  | .blt f es, X, sc, C, W, tk, ex, h => pt_plain (by unfold chkE at h; split at h; rfl; cases h) (sE (.blt f es) C W tk ex h)
  | .mth m o es, X, sc, C, W, tk, ex, h => pt_plain (by unfold chkE at h; split at h; rfl; rfl; cases h) (sE (.mth m o es) C W tk ex h)
  | .ix o i, X, sc, C, W, tk, ex, h => pt_plain (by unfold chkE at h; split at h; rfl; cases h) (sE (.ix o i) C W tk ex h)
  | .sl o lo hi, X, sc, C, W, tk, ex, h => pt_plain (by unfold chkE at h; split at h; rfl; cases h) (sE (.sl o lo hi) C W tk ex h)
  | .maxd e c, X, sc, C, W, tk, ex, h => pt_plain (by unfold chkE at h; split at h; rfl; cases h) (sE (.maxd e c) C W tk ex h)
  | .stp o c, X, sc, C, W, tk, ex, h => pt_plain (by unfold chkE at h; split at h; rfl; cases h) (sE (.stp o c) C W tk ex h)
  | .lc2 elt tg it c tg1 it1 c1, X, sc, C, W, tk, ex, h => pt_plain (by unfold chkE at h; split at h; rfl; cases h) (sE (.lc2 elt tg it c tg1 it1 c1) C W tk ex h)
  | .lc elt tg it c, X, sc, C, W, tk, ex, h => pt_plain (by unfold chkE at h; split at h; rfl; cases h) (sE (.lc elt tg it c) C W tk ex h)
theorem sI : ∀ (it : Ito) {X : Cx} {sc : Scope}, CtxOk X sc tb Γ → ∀ (W : UW), Takes X (cW X.K X.mg tb W) → ∀ t ex : Expr, chkI X.N sc tb it t ex = true → PI X t ex (cI X.K (trI Γ W it))
  | .rng1 a, X, sc, C, W, tk, t, ex, h => by
    unfold chkI at h
    split at h
    · simp only [Bool.and_eq_true, decide_eq_true_eq] at h
      obtain ⟨⟨⟨h1, h2⟩, h3⟩, h4⟩ := h
      subst h1
      refine PI.weak (pi_range1 (C.sco.gl _ h2) (C.blt _ (by decide)) (one_a (sE a C W tk _ h4) h3) (star_each h3)) fun σ H R q => ?_
      obtain ⟨s, G, R0, hs, hg, q, k⟩ := q
      refine ⟨s, G, fun us G1 => match us with
        | [x] => (match x with
          | .int j => small62 j ∧ R0 [] (rangeU 0 1 j.toNat) G1
          | _ => False)
        | _ => False, hs, hg, q, fun us G1 vs H1 q1 r1 g1 e1 => ?_⟩
      dsimp only at q1
      split at q1
      · split at q1
        · obtain ⟨b, q1⟩ := q1
          cases r1 with
          | cons r rr =>
            cases r; cases rr
            unfold small62 at b
            exact ⟨_, rfl, by omega, by omega, k _ _ G1 H1 _ q1 g1 e1 (it_range1 _ _)⟩
        · exact q1.elim
      · exact q1.elim
    · cases h
  | .rng2 a b, X, sc, C, W, tk, t, ex, h => by
    unfold chkI at h
    split at h
    · simp only [Bool.and_eq_true, decide_eq_true_eq] at h
      obtain ⟨⟨⟨⟨⟨h1, h2⟩, h3⟩, h4⟩, h5⟩, h6⟩ := h
      subst h1
      refine PI.weak (pi_range2 (C.sco.gl _ h2) (C.blt _ (by decide)) (two_a (sE a C W tk _ h5) (sE b C W tk _ h6) h3 h4) (by rw [star_each h3, star_each h4]; rfl) (by rw [star_each h4]; rfl)) fun σ H R q => ?_
      obtain ⟨s, G, R0, hs, hg, q, k⟩ := q
      refine ⟨s, G, fun us G2 => match us with
        | [x, y] => (match x, y with
          | .int i, .int j => small62 i ∧ small62 j ∧ R0 [] (rangeU i 1 (j - i).toNat) G2
          | _, _ => False)
        | _ => False, hs, hg, q, fun us G1 vs H1 q1 r1 g1 e1 => ?_⟩
      dsimp only at q1
      split at q1
      · split at q1
        · obtain ⟨b, b2, q1⟩ := q1
          cases r1 with
          | cons r rr =>
            cases rr with
            | cons r2 rr =>
              cases r; cases r2; cases rr
              unfold small62 at b b2
              exact ⟨_, _, rfl, by omega, k _ _ G1 H1 _ q1 g1 e1 (it_range1 _ _)⟩
        · exact q1.elim
      · exact q1.elim
    · cases h
  | .rng3 a b c, X, sc, C, W, tk, t, ex, h => by
    unfold chkI at h
    split at h
    · simp only [Bool.and_eq_true, decide_eq_true_eq] at h
      obtain ⟨⟨⟨⟨⟨⟨⟨h1, h2⟩, h3⟩, h4⟩, h4'⟩, h5⟩, h6⟩, h7⟩ := h
      subst h1
      refine PI.weak (pi_range3 (C.sco.gl _ h2) (C.blt _ (by decide)) (three_a (sE a C W tk _ h5) (sE b C W tk _ h6) (sE c C W tk _ h7) h3 h4 h4') (star_each h3) (star_any (by simp [h4, h4']))) fun σ H R q => ?_
      obtain ⟨s, G, R0, hs, hg, q, k⟩ := q
      refine ⟨s, G, fun us G2 => match us with
        | [x, y, z] => (match x, y, z with
          | .int i, .int j, .int c => small62 i ∧ small62 j ∧ 0 < c ∧ c < 1073741824 ∧ R0 [] (rangeU i c (rlen i j c)) G2
          | _, _, _ => False)
        | _ => False, hs, hg, q, fun us G1 vs H1 q1 r1 g1 e1 => ?_⟩
      dsimp only at q1
      split at q1
      · split at q1
        · obtain ⟨b, b2, b3, b4, q1⟩ := q1
          cases r1 with
          | cons r rr =>
            cases rr with
            | cons r2 rr =>
              cases rr with
              | cons r3 rr =>
                cases r; cases r2; cases r3; cases rr
                exact ⟨_, _, _, _, rfl, rg_ok b b2 b3 b4, k _ _ G1 H1 _ q1 g1 e1 (it_range _ _ _)⟩
        · exact q1.elim
      · exact q1.elim
    · cases h
  | .val e, X, sc, C, W, tk, t, ex, h => val_ok (sE e C W tk ex h)
  | .enum e, X, sc, C, W, tk, t, ex, h => by
    unfold chkI at h
    split at h
    · simp only [Bool.and_eq_true, decide_eq_true_eq] at h
      obtain ⟨⟨⟨h1, h2⟩, h3⟩, h4⟩ := h
      subst h1
      refine PI.weak (pi_enumK (C.sco.gl _ h2) (C.blt _ (by decide)) (one_a (sE e C W tk _ h4) h3) (star_each h3)) fun σ H R q => ?_
      obtain ⟨s, G, R0, hs, hg, q, k⟩ := q
      refine ⟨s, G, fun us G1 => match us with
        | [x] => seqOf x G1 fun ds us => R0 ds (enumU 0 us) G1
        | _ => False, hs, hg, q, fun us G1 vs H1 q1 r1 g1 e1 => ?_⟩
      dsimp only at q1
      split at q1
      · cases r1 with
        | cons r rr =>
          cases rr
          obtain ⟨kk, a, xs, ds, us, rfl, hq, q2, dk, st⟩ := seq_of g1 r q1
          exact ⟨kk, a, xs, rfl, hq, k _ _ _ _ _ q2 g1 e1 (it_enum st)⟩
      · exact q1.elim
    · cases h
  | .zip a b, X, sc, C, W, tk, t, ex, h => by
    unfold chkI at h
    split at h
    · simp only [Bool.and_eq_true, decide_eq_true_eq] at h
      obtain ⟨⟨⟨⟨⟨h1, h2⟩, h3⟩, h4⟩, h5⟩, h6⟩ := h
      subst h1
      refine PI.weak (pi_zipK (C.sco.gl _ h2) (C.blt _ (by decide)) (two_a (sE a C W tk _ h5) (sE b C W tk _ h6) h3 h4) (star_each h3) (star_any (by simp [h4]))) fun σ H R q => ?_
      obtain ⟨s, G, R0, hs, hg, q, k⟩ := q
      refine ⟨s, G, fun us G2 => match us with
        | [x, y] => seqOf x G2 fun ds us => seqOf y G2 fun es ws => R0 (ds ++ es) (zipU us ws) G2
        | _ => False, hs, hg, q, fun us G1 vs H1 q1 r1 g1 e1 => ?_⟩
      dsimp only at q1
      split at q1
      · cases r1 with
        | cons r rr =>
          cases rr with
          | cons r2 rr =>
            cases rr
            obtain ⟨k1, a, xs, ds, us, rfl, hq, q2, dk, st⟩ := seq_of g1 r q1
            obtain ⟨k2, b, ys, es, ws, rfl, hq2, q3, dk2, st2⟩ := seq_of g1 r2 q2
            exact ⟨k1, k2, a, b, xs, ys, rfl, hq, hq2, k _ _ _ _ _ q3 g1 e1 (it_zip st st2)⟩
      · exact q1.elim
    · cases h
end
end
end UL
set_option Elab.async false
set_option linter.all false
set_option autoImplicit false
set_option maxRecDepth 100000
set_option maxHeartbeats 4000000
/-! UL12: trees of one's own for statements; what they ask; how they fit the text. -/
namespace UL
open PySem PySem.Spec L2
mutual
inductive Hx
  | fld (f : Str) | int (i : Int) | str (x : Str) | bl (b : Bool) | non | tup (es : Hxs) | lst (es : Hxs)
inductive Hxs
  | nil
  | cons (e : Hx) (es : Hxs)
end
mutual
inductive Sm
  | asg (t : Tg) (e : Ex) | par2 (i j : Nat) (es : Exs) | par3 (i j l : Nat) (es : Exs) | setLc (i : Nat) (elt : Ex) (tg : Tg) (it : Ito) (c : Exo)
  | sub (o i e : Ex) | aug (i : Nat) (op : Operator) (e : Ex) | augS (o i : Ex) (op : Operator) (e : Ex)
  | expr (e : Ex) | doc | ret (e : Ex) | retN | ife (c : Ex) (a b : Sms) | whl (c : Ex) (b : Sms) | for_ (t : Tg) (it : Ito) (b : Sms)
  | brk | cont | pass | raise (k : Nat) (es : Exs) | tryAs (b : Sms) (k i : Nat) (h : Hx)
inductive Sms
  | nil
  | cons (s : Sm) (ss : Sms)
end
structure UE where
  nx : USt → UH → Prop
  rt : UK
  bk : USt → UH → Prop
  ct : USt → UH → Prop
  ex : UW
abbrev UTS := UE → USt → UH → Prop
/-- the names of a class's fields, its kin -/
structure Tab2 extends Tab where
  sub : Nat → Nat → Bool

mutual
def trH : Hx → List (Str × U) → UH → UK → Prop
  | .fld f => fun fs G Q => match fs.lookup f with
    | some u => Q u G
    | none => False
  | .int i => fun _ G Q => Q (.int i) G
  | .str i => fun _ G Q => Q (.str i) G
  | .bl i => fun _ G Q => Q (.bl i) G
  | .non => fun _ G Q => Q .non G
  | .tup es => fun fs G Q => trHs es fs G fun us G1 => us.length ≤ sizeLine ∧ Q (.tup us) G1
  | .lst es => fun fs G Q => trHs es fs G fun us G1 => us.length ≤ sizeLine ∧ ∀ p, G1 p = none → Q (.ref p) (up G1 p (.lst us))
def trHs : Hxs → List (Str × U) → UH → (List U → UH → Prop) → Prop
  | .nil => fun _ G Q => Q [] G
  | .cons e es => fun fs G Q => trH e fs G fun u G1 => trHs es fs G1 fun us G2 => Q (u :: us) G2
end
def putU (kvs : List (Key × U)) (k : Key) (v : U) : List (Key × U) :=
  if (kvs.any fun kv => decide (kv.1 = k)) = true then kvs.map (fun kv => if kv.1 = k then (kv.1, v) else kv) else kvs ++ [(k, v)]
/-- o[i] = v -/
def uSet (o i v : U) (G : UH) (Q : UH → Prop) : Prop := match o with
  | .ref a => (match G a with
    | some (.lst us) => (match i with
      | .int k => (match ixN us.length k with
        | some j => Q (up G a (.lst (us.set j v)))
        | none => False)
      | _ => False)
    | some (.dK kvs) => (match keyOf i with
      | some k => kvs.length < sizeLine ∧ Q (up G a (.dK (putU kvs k v)))
      | none => False)
    | _ => False)
  | _ => False
def uGet : UOp := fun x y G Q => match x with
  | .ref a => uIx (.ref a) y G Q
  | _ => False
/-- op= by values -/
def uIp : Operator → UOp
  | .Add => fun x y G Q => match x, y with
    | .int i, .int j => Q (.int (i + j)) G
    | _, _ => False
  | .Sub => fun x y G Q => match x, y with
    | .int i, .int j => Q (.int (i - j)) G
    | _, _ => False
  | _ => fun _ _ _ _ => False
/-- a loop over what is told -/
def forU (ds : Deps) (g : U → USt → UH → (USt → UH → Prop) → Prop) (tb : UTS) (D : UE) : List U → USt → UH → Prop
  | [], s, G => depsOk G ds ∧ D.nx s G
  | y :: ys, s, G => depsOk G ds ∧ g y s G fun s1 G1 => tb ⟨fun s2 G2 => ∃ G3, Le G3 G2 ∧ forU ds g tb D ys s2 G3, D.rt, D.nx, fun s2 G2 => ∃ G3, Le G3 G2 ∧ forU ds g tb D ys s2 G3, D.ex⟩ s1 G1
def whlU (c : UTT) (tb : UTS) (D : UE) (s : USt) (G : UH) : Prop := ∃ Iv : Nat → USt → UH → Prop, (∃ m, Iv m s G) ∧ ∀ m s1 G1, Iv m s1 G1 → c s1 G1 fun b G2 => if b = true then
  tb ⟨fun s2 G3 => ∃ m' G4, m' < m ∧ Le G4 G3 ∧ Iv m' s2 G4, D.rt, D.nx, fun s2 G3 => ∃ m' G4, m' < m ∧ Le G4 G3 ∧ Iv m' s2 G4, D.ex⟩ s1 G2 else D.nx s1 G2
mutual
def trS (tb : Tab2) (Γ : Gam) : Sm → UTS
  | .asg t e => fun D s G => trE Γ D.ex e s G fun u G1 => trG t u s G1 D.nx
  | .par2 i j es => fun D s G => trA Γ D.ex es s G fun us G1 => match us with
    | [u, v] => D.nx (setS (setS s i (some u)) j (some v)) G1
    | _ => False
  | .par3 i j l es => fun D s G => trA Γ D.ex es s G fun us G1 => match us with
    | [u, v, w] => D.nx (setS (setS (setS s i (some u)) j (some v)) l (some w)) G1
    | _ => False
  | .setLc i elt tg it c => fun D s G => trE Γ D.ex (.lc elt tg it c) s G fun u G1 => D.nx (setS s i (some u)) G1
  | .sub o i e => fun D s G => trE Γ D.ex e s G fun v G1 => trE Γ D.ex o s G1 fun x G2 => trE Γ D.ex i s G2 fun y G3 => uSet x y v G3 fun G4 => D.nx s G4
  | .aug i op e => fun D s G => match getS s i with
    | some x => trE Γ D.ex e s G fun y G1 => uIp op x y G1 fun z G2 => D.nx (setS s i (some z)) G2
    | none => False
  | .augS o i op e => fun D s G => trE Γ D.ex o s G fun x G1 => trE Γ D.ex i s G1 fun y G2 => uGet x y G2 fun z G3 => trE Γ D.ex e s G3 fun v G4 => uIp op z v G4 fun w G5 => uSet x y w G5 fun G6 => D.nx s G6
  | .expr e => fun D s G => trE Γ D.ex e s G fun _ G1 => D.nx s G1
  | .doc => fun D s G => D.nx s G
  | .ret e => fun D s G => trE Γ D.ex e s G D.rt
  | .retN => fun D _ G => D.rt .non G
  | .ife c a b => fun D s G => trT Γ D.ex c s G fun k G1 => if k = true then trSs tb Γ a D s G1 else trSs tb Γ b D s G1
  | .whl c b => fun D s G => whlU (trT Γ D.ex c) (trSs tb Γ b) D s G
  | .for_ t it b => fun D s G => trI Γ D.ex it s G fun ds ys G1 => forU ds (trG t) (trSs tb Γ b) D ys s G1
  | .brk => fun D s G => D.bk s G
  | .cont => fun D s G => D.ct s G
  | .pass => fun D s G => D.nx s G
  | .raise k es => fun D s G => trA Γ D.ex es s G fun us G1 => ((tb.xcs[k]?).map fun p => p.2.length) = some us.length ∧ D.ex (k, us.reverse) s G1
  | .tryAs b k i h => fun D s G => trSs tb Γ b { D with ex := fun xn s1 G1 => if tb.sub xn.1 k = true then ∃ x fs, tb.xcs[xn.1]? = some (x, fs) ∧ trH h (fs.zip xn.2) G1 D.rt else D.ex xn s1 G1 } s G
def trSs (tb : Tab2) (Γ : Gam) : Sms → UTS
  | .nil => fun D s G => D.nx s G
  | .cons st ss => fun D s G => trS tb Γ st { D with nx := fun s1 G1 => trSs tb Γ ss D s1 G1 } s G
end

/-! ### fits the text -/
def starLess : Expr → Bool
  | .Starred _ _ => false
  | _ => true
def swpF (sc : Scope) (tg e : Expr) : Bool := match e with
  | .ListComp _ _ s p => (match tg with
    | .Name t tp => decide (sc.names.lookup t = some .local) && (tp.line == p.line) && !(s.names.any fun (n, k) => n == t && (k == .local || k == .cell))
    | _ => false)
  | .SetComp _ _ _ _ => true
  | .DictComp _ _ _ _ _ => true
  | _ => false
def exprLc : Expr → Bool
  | .ListComp _ _ _ _ => true
  | .SetComp _ _ _ _ => true
  | .DictComp _ _ _ _ _ => true
  | _ => false
/-- the names that are stored the other way round -/
def swNames (sc : Scope) (ts : List Expr) : List Str :=
  let line := (ts.head?.map (·.pos.line)).getD 0
  ts.filterMap fun
    | .Name id pos => if sc.names.lookup id == some .local && pos.line == line then some id else none
    | _ => none
def swNo (sc : Scope) (tg e : Expr) : Bool := match tg, e with
  | .Tuple ts _ _, .Tuple vs _ _ => !(ts.length == 2 || ts.length == 3) || vs.length != ts.length || (swNames sc ts).length != ts.length || (swNames sc ts).eraseDups.length != (swNames sc ts).length || vs.all (foldedForSure 8)
  | .List _ _, .Tuple _ _ _ => false
  | _, _ => true
mutual
def chkH (n : Str) : Hx → Expr → Bool
  | .fld f => fun ex => match ex with
    | .Attribute (.Name x _) g _ => decide (x = n) && decide (f = g)
    | _ => false
  | .int i => fun ex => match ex with
    | .Constant (.int j) _ _ => decide (i = j)
    | .UnaryOp .USub (.Constant (.int j) _ _) _ => decide (i = -j)
    | _ => false
  | .str i => fun ex => match ex with
    | .Constant (.str j) _ _ => decide (i = j)
    | _ => false
  | .bl i => fun ex => match ex with
    | .Constant (.bool j) _ _ => decide (i = j)
    | _ => false
  | .non => fun ex => match ex with
    | .Constant .none _ _ => true
    | _ => false
  | .tup es => fun ex => match ex with
    | .Tuple xs _ _ => chkHs n es xs
    | _ => false
  | .lst es => fun ex => match ex with
    | .List xs _ => chkHs n es xs
    | _ => false
def chkHs (n : Str) : Hxs → List Expr → Bool
  | .nil => fun xs => match xs with
    | [] => true
    | _ => false
  | .cons e es => fun xs => match xs with
    | x :: xs => notStar x && chkH n e x && chkHs n es xs
    | _ => false
end
def locOnly (N : List Str) (sc : Scope) (i : Nat) (x : Str) : Bool := decide (N[i]? = some x) && decide (sc.names.lookup x = some .local)
mutual
def chkS (N : List Str) (sc : Scope) (tb : Tab2) (nt : Bool) : Sm → Stmt → Bool
  | .asg t e => fun st => match st with
    | .Assign [tg] v _ => notStar tg && !(swpF sc tg v) && swNo sc tg v && chkG N sc t tg && chkE N sc tb.toTab e v
    | _ => false
  | .par2 i j es => fun st => match st with
    | .Assign [.Tuple [.Name x px, .Name y py] _ _] (.Tuple [a, b] _ _) _ => locOnly N sc i x && locOnly N sc j y && decide (i ≠ j) && decide (x ≠ y) && (py.line == px.line) && notStar a && notStar b && !([a, b].all (foldedForSure 8)) && !([a, b].all (constantsAlone 8)) && chkA N sc tb.toTab es [a, b]
    | _ => false
  | .par3 i j l es => fun st => match st with
    | .Assign [.Tuple [.Name x px, .Name y py, .Name z pz] _ _] (.Tuple [a, b, c] _ _) _ => locOnly N sc i x && locOnly N sc j y && locOnly N sc l z && decide (i ≠ j) && decide (i ≠ l) && decide (j ≠ l) && decide (x ≠ y) && decide (x ≠ z) && decide (y ≠ z) &&
       (py.line == px.line) && (pz.line == px.line) && notStar a && notStar b && notStar c && !([a, b, c].all (foldedForSure 8)) && !([a, b, c].all (constantsAlone 8)) && chkA N sc tb.toTab es [a, b, c]
    | _ => false
  | .setLc i elt tg it c => fun st => match st with
    | .Assign [.Name y py] (.ListComp el [⟨t, ii, ifs, 0⟩] scope pos) _ => locOnly N sc i y && (py.line == pos.line) && !(scope.names.any fun (n, k) => n == y && (k == .local || k == .cell)) && chkE N sc tb.toTab (.lc elt tg it c) (.ListComp el [⟨t, ii, ifs, 0⟩] scope pos)
    | _ => false
  | .sub o i e => fun st => match st with
    | .Assign [.Subscript x y p] v _ => notSl y && chkE N sc tb.toTab o x && chkE N sc tb.toTab i y && chkE N sc tb.toTab e v && !(swpF sc (.Subscript x y p) v)
    | _ => false
  | .aug i op e => fun st => match st with
    | .AugAssign (.Name x _) op' v _ => decide (op = op') && decide (N[i]? = some x) && locB sc x && chkE N sc tb.toTab e v
    | _ => false
  | .augS o i op e => fun st => match st with
    | .AugAssign (.Subscript x y _) op' v _ => decide (op = op') && notSl y && chkE N sc tb.toTab o x && chkE N sc tb.toTab i y && chkE N sc tb.toTab e v
    | _ => false
  | .expr e => fun st => match st with
    | .Expr v _ => !(exprLc v) && chkE N sc tb.toTab e v
    | _ => false
  | .doc => fun st => match st with
    | .Expr (.Constant (.str _) _ _) _ => true
    | _ => false
  | .ret e => fun st => match st with
    | .Return (some v) _ => chkE N sc tb.toTab e v
    | _ => false
  | .retN => fun st => match st with
    | .Return none _ => true
    | _ => false
  | .ife c a b => fun st => match st with
    | .If t x y _ => chkE N sc tb.toTab c t && chkSs N sc tb nt a x && chkSs N sc tb nt b y
    | _ => false
  | .whl c b => fun st => match st with
    | .While t x [] _ => chkE N sc tb.toTab c t && chkSs N sc tb nt b x
    | _ => false
  | .for_ t it b => fun st => match st with
    | .For tg i x [] _ => notSet i && chkG N sc t tg && chkI N sc tb.toTab it tg i && chkSs N sc tb true b x
    | _ => false
  | .brk => fun st => match st with
    | .Break _ => true
    | _ => false
  | .cont => fun st => match st with
    | .Continue _ => true
    | _ => false
  | .pass => fun st => match st with
    | .Pass _ => true
    | _ => false
  | .raise k es => fun st => match st with
    | .Raise (some (.Call (.Name x _) (y :: ys) [] _)) none _ => decide ((tb.xcs[k]?).map (·.1) = some x) && glB sc x && chkA N sc tb.toTab es (y :: ys)
    | _ => false
  | .tryAs b k i h => fun st => match st with
    | .Try body [.ExceptHandler (some (.Name x _)) (some n) [.Return (some v) _] _] [] [] _ => !nt && decide ((tb.xcs[k]?).map (·.1) = some x) && glB sc x && !(x == ("__debug__" : Str)) && locOnly N sc i n && !(n == ("__debug__" : Str)) && !(n == ("__classdict__" : Str)) && chkSs N sc tb nt b body && chkH n h v
    | _ => false
def chkSs (N : List Str) (sc : Scope) (tb : Tab2) (nt : Bool) : Sms → List Stmt → Bool
  | .nil => fun xs => match xs with
    | [] => true
    | _ => false
  | .cons s ss => fun xs => match xs with
    | x :: xs => chkS N sc tb nt s x && chkSs N sc tb nt ss xs
    | _ => false
end
/-! ### stores the other way round -/
section
variable {env : Env} {sc : Scope}
theorem sw_not {tg e : Expr} {l : Nat} (hs : env.scope = sc) (hk : sc.kind = .function) (h : swpF sc tg e = false) : swapsWithSole [tg] e l env = pure false := by
  show swapsWith e (some tg) l env = pure false
  cases e with
  | ListComp elt gs s p =>
    unfold swpF at h
    cases tg with
    | Name t tp =>
      have hb : env.blockKind = .function := by unfold Env.blockKind; rw [hs, hk]; rfl
      simp only [Bool.and_eq_false_iff, decide_eq_false_iff_not] at h
      unfold swapsWith
      show (pure (env.blockKind == .function && env.kindOf t == some .local && tp.line == p.line && !(s.names.any fun (n, k) => n == t && (k == .local || k == .cell))) : Sem Bool) = pure false
      congr 1
      have kd : env.kindOf t = sc.names.lookup t := by unfold Env.kindOf; rw [hs]
      rcases h with (h | h) | h
      · have : (env.kindOf t == some .local) = false := by rw [kd]; simpa using h
        rw [this]; simp
      · rw [h]; simp
      · rw [h]; simp
    | _ => rfl
  | SetComp => cases h
  | DictComp => cases h
  | _ => rfl
theorem sw_none {e : Expr} {l : Nat} (h : exprLc e = false) : swapsWith e none l env = pure false := by
  cases e <;> first | rfl | cases h
theorem swT_none {ts vs : List Expr} {k k2 : Nat} {p p2 : Pos} (hb : env.blockKind = .function) (h : swNo env.scope (.Tuple ts k p) (.Tuple vs k2 p2) = true) : swappedStores [.Tuple ts k p] (.Tuple vs k2 p2) env = pure none := by
  unfold swNo at h
  simp only [Bool.or_eq_true, Bool.not_eq_true'] at h
  unfold swappedStores
  dsimp only
  split
  · rfl
  · rename_i c1
    split
    · rfl
    · split
      · rfl
      · rename_i c3
        have c3' : ¬ (((swNames env.scope ts).length != ts.length || (swNames env.scope ts).eraseDups.length != (swNames env.scope ts).length) = true) := c3
        have c4 : vs.all (foldedForSure 8) = true := by
          simp only [Bool.or_eq_true, Bool.not_eq_true', not_or] at c1 c3'
          rcases h with (((h | h) | h) | h) | h
          · exact absurd h c1.1.1
          · exact absurd h c1.1.2
          · exact absurd h c3'.1
          · exact absurd h c3'.2
          · exact h
        rw [if_pos c4]
theorem sw_stores_none {tg e : Expr} (hs : env.scope = sc) (hk : sc.kind = .function) (h : swNo sc tg e = true) : swappedStores [tg] e env = pure none := by
  have hb : env.blockKind = .function := by unfold Env.blockKind; rw [hs, hk]; rfl
  subst hs
  cases tg with
  | Tuple ts k p =>
    cases e with
    | Tuple vs k2 p2 => exact swT_none hb h
    | _ => rfl
  | List ts p =>
    cases e with
    | Tuple vs k2 p2 => cases h
    | _ => rfl
  | _ => cases e <;> rfl
end
end UL
set_option Elab.async false
set_option linter.all false
set_option autoImplicit false
set_option maxRecDepth 100000
set_option maxHeartbeats 4000000
/-! UL13: soundness of statements. -/
namespace UL
open PySem PySem.Spec L2
theorem Inv.ext0 {X : Cx} {pins : List (Addr × Obj)} {σ : L2.St} {H : Hp} {s : Shared} (I : Inv X pins σ H s) : Ext X.H_0 H := ⟨fun a xs h => I.base.tups a xs h, fun a o u h => I.base.frzs a o u h⟩
theorem takes_ext {X : Cx} {W W' : WX} (t : Takes X W) (h : ∀ c d σ H, Ext X.H_0 H → σ.length = X.N.length → W' c d σ H → W c d σ H) : Takes X W' := fun u s' ⟨a, B, sI, pins, σ, H, cls, d, e, I, nb, up, sky, na, os, ag, w⟩ =>
  t u s' ⟨a, B, sI, pins, σ, H, cls, d, e, I, nb, up, sky, na, os, ag, h _ _ _ _ (Inv.ext0 I) I.len w⟩
/-- an exception class of the text, what is to be known -/
structure XcCls (K : PySem.W.Frag) (C : Addr) (fs : List Str) : Prop where
  ga : PySem.W.findIn K (.ref C) "__getattribute__" = some (some (.builtin "BaseException.__getattribute__"))
  gg : PySem.W.findIn K (.ref C) "__getattr__" = some none
  exC : PySem.W.subIn K (.ref C) (.type "BaseException") = some true
  hdC : PySem.W.hasDictIn K C = true
  noN : ∀ f ∈ fs, PySem.W.findIn K (.ref C) f = some none
/-- it can be made: its own __init__ lays its fields, the first one last -/
structure XcAvail (X : Cx) (x : Str) (fs : List Str) : Prop where
  ex : ∃ (C fI : Addr) (fd : FuncData) (k : Nat) (ps : List Str) (sp : Sp), X.mg x = some (.ref C) ∧ XcCls X.K C fs ∧ OexC X.K C ∧ PySem.W.findIn X.K (.ref C) "__init__" = some (some (.ref fI)) ∧ PySem.W.typeIn X.K (.ref fI) = some (.type "function") ∧
    FnOk X.prog X.w X.K X.mg X.base (CX X.prog X.w) k fI fd ps sp ∧ Room (k + 1) X.A ∧ Binds X.K fd ps [] ∧ fs.length ≤ 900 ∧
    ∀ (a : Addr) (ws : List V) (H : Hp) (Q : VK), ws.length = fs.length → H a = some (exo a C none) → (∀ d, H d = none → d ≠ a → Q .non (upd (upd H d (exd d (fs.zip ws.reverse))) a (exo a C (some d)))) → sp (.ref a :: ws) H Q (fun _ _ _ => False)
  db : (x == ("__debug__" : Str)) = false
structure CtxS (X : Cx) (sc : Scope) (tb : Tab2) (Γ : Gam) : Prop extends CtxOk X sc tb.toTab Γ where
  scE : X.env.scope = sc
  knd : sc.kind = .function
  own : PassesOwn (model X.prog X.w) X.A X.env X.xe
  stk : X.stack = X.env :: X.outer
  frm : X.env.frame = some X.env.locals
  xcs : ∀ (i : Nat) (x : Str) (fs : List Str), tb.xcs[i]? = some (x, fs) → XcAvail X x fs
  sub : ∀ (i k : Nat) (x y : Str) (fs gs : List Str) (C D : Addr), tb.xcs[i]? = some (x, fs) → tb.xcs[k]? = some (y, gs) → X.mg x = some (.ref C) → X.mg y = some (.ref D) → PySem.W.exmOne X.K (.ref C) (.ref D) = some (tb.sub i k)
structure Post (K : PySem.W.Frag) (B : Hp) (D0 : UE) (D : Ends) : Prop where
  nx : ∀ s G σ H, D0.nx s G → SR K H s σ → HR K G H → Ext B H → D.nx σ H
  rt : ∀ u G v H, D0.rt u G → RU K H u v → HR K G H → Ext B H → D.rt v H
  bk : ∀ s G σ H, D0.bk s G → SR K H s σ → HR K G H → Ext B H → D.bk σ H
  ct : ∀ s G σ H, D0.ct s G → SR K H s σ → HR K G H → Ext B H → D.ct σ H
def cS (X : Cx) (tb : Tab2) (nt : Bool) (t : UTS) : TS := fun D σ H => ∃ B D0 s G, (nt = true ∨ B = X.H_0) ∧ Takes X (cW X.K X.mg tb.toTab D0.ex) ∧ SR X.K H s σ ∧ HR X.K G H ∧ Ext B H ∧ t D0 s G ∧ Post X.K B D0 D

/-! ### what an exception holds -/
def cH (K : PySem.W.Frag) (a : Addr) (i : Nat) (cls : Value) (d : Option Addr) (t : List (Str × U) → UH → UK → Prop) : TE := fun σ H Q => ∃ (C dx : Addr) (fs : List Str) (vs : List V) (us : List U) (G : UH) (Q0 : UK),
  σ[i]? = some (some (.ref a)) ∧ cls = .ref C ∧ XcCls K C fs ∧ d = some dx ∧ H dx = some (.xd (fs.zip vs)) ∧ fs.length = vs.length ∧ RUs K H us vs ∧ HR K G H ∧ t (fs.zip us) G Q0 ∧
  ∀ u G' v H', Q0 u G' → RU K H' u v → HR K G' H' → Ext H H' → H' dx = H dx → Q v H'
def cHs (K : PySem.W.Frag) (a : Addr) (i : Nat) (cls : Value) (d : Option Addr) (t : List (Str × U) → UH → (List U → UH → Prop) → Prop) : TA := fun σ H Q => ∃ (C dx : Addr) (fs : List Str) (vs : List V) (us : List U) (G : UH) (Q0 : List U → UH → Prop),
  σ[i]? = some (some (.ref a)) ∧ cls = .ref C ∧ XcCls K C fs ∧ d = some dx ∧ H dx = some (.xd (fs.zip vs)) ∧ fs.length = vs.length ∧ RUs K H us vs ∧ HR K G H ∧ t (fs.zip us) G Q0 ∧
  ∀ u G' v H', Q0 u G' → RUs K H' u v → HR K G' H' → Ext H H' → H' dx = H dx → Q v H'
theorem zip_look {K : PySem.W.Frag} {H : Hp} {f : Str} {u : U} : ∀ {fs : List Str} {us : List U} {vs : List V}, RUs K H us vs → (fs.zip us).lookup f = some u → f ∈ fs ∧ ∃ v, (fs.zip vs).lookup f = some v ∧ RU K H u v
  | [], _, _, _, h => by simp at h
  | g :: fs, _, _, .nil, h => by simp at h
  | g :: fs, _, _, .cons (u := u') (x := v') r t, h => by
    simp only [List.zip_cons_cons, List.lookup_cons] at h ⊢
    cases e : f == g with
    | true =>
      rw [e] at h
      simp only [Option.some.injEq] at h
      subst h
      exact ⟨by simp [eq_of_beq e], v', by simp, r⟩
    | false =>
      rw [e] at h
      obtain ⟨h1, v, h2, h3⟩ := zip_look t h
      exact ⟨List.mem_cons_of_mem _ h1, v, by simpa using h2, h3⟩
theorem pe_xfld {X : Cx} {a : Addr} {oe : Obj} {cls : Value} {d : Option Addr} {pn : List (Addr × Obj)} {i : Nat} {n f : Str} {p pos : Pos} (hz : Zc cls d oe) (hf : ∃ vs, oe.data = .fields vs) (he : PE (X.suite a ((a, oe) :: pn)) (.Name n p) (tVar i)) :
    PE (X.suite a ((a, oe) :: pn)) (.Attribute (.Name n p) f pos) (cH X.K a i cls d (trH (.fld f))) := by
  refine ⟨fun pins s σ H Q I h => ?_⟩
  obtain ⟨C, dd, fs, vs, us, G, Q0, hs, ec, T, ed, ea, hl, ru, hg, q, k⟩ := h
  unfold trH at q
  split at q
  · rename_i u hu
    obtain ⟨fm, v, hv, rv⟩ := zip_look ru hu
    refine attr_of rfl (thn (he.run pins s σ H (fun x H1 => x = .ref a ∧ H1 = H) I ⟨.ref a, hs, rfl, rfl⟩) fun w s1 ⟨x, H1, I1, rx, ex, eh⟩ => ?_)
    subst ex eh
    obtain rfl : w = Value.ref a := rx
    subst ec ed
    obtain ⟨ha, _⟩ := I1.pin (a, oe) (List.mem_append_left _ List.mem_cons_self)
    obtain ⟨ws, hd⟩ := hf
    have hx : ObjOk X.prog X.w H1 s1.heap dd (.xd (fs.zip vs)) := I1.hok dd _ ea
    obtain ⟨mA, hns, hr⟩ := hx
    obtain ⟨od, ho, hlk⟩ := lookIn_ns hns
    obtain ⟨w, hu', rw'⟩ := RelO.some_of (v := v) (o := mA f) (by rw [← hv]; exact hr f)
    have J : PySem.W.InstAt s1.heap a oe C (some od) := ⟨ha, hz.1, by unfold PySem.W.notCls; rw [hd] <;> rfl, by rw [hz.2]; exact ho⟩
    exact HandSPX.exc_get I1.kIn J T.ga T.gg T.exC (PySem.W.findObj_own T.hdC (T.noN f fm) rfl (by rw [hlk, hu'])) (handed_of rw') ⟨v, H1, I1.tok _, rw', k u G v H1 q rv hg .refl rfl⟩
  · exact q.elim
theorem cH_c {K : PySem.W.Frag} {a : Addr} {i : Nat} {cls : Value} {d : Option Addr} {u : U} {v : V} (r : ∀ H, RU K H u v) {σ : L2.St} {H : Hp} {Q : VK} (h : cH K a i cls d (fun _ G Q => Q u G) σ H Q) : tC v σ H Q := by
  obtain ⟨C, dd, fs, vs, us, G, Q0, hs, ec, T, ed, ea, hl, ru, hg, q, k⟩ := h
  exact k u G v H q (r H) hg .refl rfl
section
variable {X : Cx} {a : Addr} {oe : Obj} {cls : Value} {d : Option Addr} {pn : List (Addr × Obj)} {i : Nat} {n : Str}
mutual
theorem sH (hz : Zc cls d oe) (hf : ∃ vs, oe.data = .fields vs) (he : ∀ p, PE (X.suite a ((a, oe) :: pn)) (.Name n p) (tVar i)) : ∀ (h : Hx) (e : Expr), chkH n h e = true → PE (X.suite a ((a, oe) :: pn)) e (cH X.K a i cls d (trH h))
  | .fld f, e, c => by
    unfold chkH at c
    split at c
    · simp only [Bool.and_eq_true, decide_eq_true_eq] at c
      obtain ⟨rfl, rfl⟩ := c
      exact pe_xfld hz hf (he _)
    · cases c
  | .int j, e, c => by
    unfold chkH at c
    split at c
    · rw [decide_eq_true_eq] at c
      subst c
      exact PE.weak pe_int fun σ H Q q => cH_c (fun _ => .int _) q
    · rw [decide_eq_true_eq] at c
      subst c
      exact PE.weak (pe_un un_neg pe_int) fun σ H Q q => ⟨_, rfl, cH_c (fun _ => .int _) q⟩
    · cases c
  | .str j, e, c => by
    unfold chkH at c
    split at c
    · rw [decide_eq_true_eq] at c
      subst c
      exact PE.weak pe_str fun σ H Q q => cH_c (fun _ => .str _) q
    · cases c
  | .bl j, e, c => by
    unfold chkH at c
    split at c
    · rw [decide_eq_true_eq] at c
      subst c
      exact PE.weak pe_bl fun σ H Q q => cH_c (fun _ => .bl _) q
    · cases c
  | .non, e, c => by
    unfold chkH at c
    split at c
    · exact PE.weak pe_non fun σ H Q q => cH_c (fun _ => .non) q
    · cases c
  | .tup es, e, c => by
    unfold chkH at c
    split at c
    · refine PE.weak (pe_tup (sHs hz hf he es _ c)) fun σ H Q q => ?_
      obtain ⟨C, dd, fs, vs, us, G, Q0, hs, ec, T, ed, ea, hl, ru, hg, q, k⟩ := q
      refine ⟨C, dd, fs, vs, us, G, _, hs, ec, T, ed, ea, hl, ru, hg, q, fun ws G1 xs H1 q1 r1 g1 e1 d1 => ⟨by rw [← r1.length]; exact q1.1, fun p hp => ?_⟩⟩
      obtain ⟨e2, g2, r2⟩ := g1.newTup hp r1
      exact k _ G1 _ _ q1.2 r2 g2 (e1.trans e2) ((upd_ne (fun z => by rw [← z, d1, ea] at hp; cases hp)).trans d1)
    · cases c
  | .lst es, e, c => by
    unfold chkH at c
    split at c
    · refine PE.weak (pe_lst (sHs hz hf he es _ c)) fun σ H Q q => ?_
      obtain ⟨C, dd, fs, vs, us, G, Q0, hs, ec, T, ed, ea, hl, ru, hg, q, k⟩ := q
      refine ⟨C, dd, fs, vs, us, G, _, hs, ec, T, ed, ea, hl, ru, hg, q, fun ws G1 xs H1 q1 r1 g1 e1 d1 => ⟨by rw [← r1.length]; exact q1.1, fun p hp => ?_⟩⟩
      obtain ⟨e2, g2⟩ := g1.newLst hp r1
      exact k _ _ _ _ (q1.2 p (g1.fresh hp)) (.ref p) g2 (e1.trans e2) ((upd_ne (fun z => by rw [← z, d1, ea] at hp; cases hp)).trans d1)
    · cases c
theorem sHs (hz : Zc cls d oe) (hf : ∃ vs, oe.data = .fields vs) (he : ∀ p, PE (X.suite a ((a, oe) :: pn)) (.Name n p) (tVar i)) : ∀ (h : Hxs) (e : List Expr), chkHs n h e = true → PA (X.suite a ((a, oe) :: pn)) e (cHs X.K a i cls d (trHs h))
  | .nil, [], _ => by
    refine PA.weak pa_nil fun σ H Q q => ?_
    obtain ⟨C, dd, fs, vs, us, G, Q0, hs, ec, T, ed, ea, hl, ru, hg, q, k⟩ := q
    exact k _ G _ H q .nil hg .refl rfl
  | .nil, _ :: _, c => by cases c
  | .cons _ _, [], c => by cases c
  | .cons h hs, e :: es, c => by
    simp only [chkHs, Bool.and_eq_true] at c
    refine PA.weak (pa_cons (sH hz hf he h e c.1.2) (sHs hz hf he hs es c.2) (star_each c.1.1)) fun σ H Q q => ?_
    obtain ⟨C, dd, fs, vs, us, G, Q0, hs, ec, T, ed, ea, hl, ru, hg, q, k⟩ := q
    refine ⟨C, dd, fs, vs, us, G, _, hs, ec, T, ed, ea, hl, ru, hg, q, fun u G1 v H1 q1 r1 g1 e1 d1 => ⟨C, dd, fs, vs, us, G1, _, hs, ec, T, ed, d1.trans ea, hl, RUs.ext e1 ru, g1, q1, fun ws G2 xs H2 q2 r2 g2 e2 d2 => ?_⟩⟩
    exact k _ G2 _ H2 q2 (.cons (RU.ext e2 r1) r2) g2 (e1.trans e2) (d2.trans d1)
end
end
end UL
set_option Elab.async false
set_option linter.all false
set_option autoImplicit false
set_option maxRecDepth 100000
set_option maxHeartbeats 4000000
/-! UL14: soundness of statements. -/
namespace UL
open PySem PySem.Spec L2
theorem RKV.any {K : PySem.W.Frag} {H : Hp} (k : Key) : ∀ {kvs : List (Key × U)} {xs : List (Key × V)}, RKV K H kvs xs → (kvs.any fun kv => decide (kv.1 = k)) = (xs.any fun kv => decide (kv.1 = k)) := by
  intro kvs xs r
  unfold RKV at r
  induction r with
  | nil => rfl
  | cons h _ ih => simp only [List.any_cons, ih, h.1]
theorem RKV.put {K : PySem.W.Frag} {H : Hp} {k : Key} {u : U} {v : V} (q : RU K H u v) {kvs : List (Key × U)} {xs : List (Key × V)} (r : RKV K H kvs xs) : RKV K H (putU kvs k u) (putK xs k v) := by
  unfold putU putK
  rw [RKV.any k r]
  split
  · rename_i hh
    clear hh
    unfold RKV at *
    induction r with
    | nil => exact .nil
    | cons h _ ih =>
      refine .cons ?_ ih
      dsimp only
      rw [h.1]
      split
      · exact ⟨rfl, q⟩
      · exact h
  · rename_i hh
    clear hh
    unfold RKV at *
    induction r with
    | nil => exact .cons ⟨rfl, q⟩ .nil
    | cons h _ ih => exact .cons h ih
theorem RKV.length {K : PySem.W.Frag} {H : Hp} {kvs : List (Key × U)} {xs : List (Key × V)} (r : RKV K H kvs xs) : kvs.length = xs.length := by
  unfold RKV at r
  induction r with
  | nil => rfl
  | cons _ _ ih => simp [ih]
def cSet (K : PySem.W.Frag) : TSet := fun o i v H Q => ∃ x y z G Q0, RU K H x o ∧ RU K H y i ∧ RU K H z v ∧ HR K G H ∧ uSet x y z G Q0 ∧ ∀ G' H', Q0 G' → HR K G' H' → Ext H H' → Q H'
theorem pset_any {X : Cx} (hu : X.A.units + 1 < cLine) : PSet X (cSet X.K) := by
  intro pins s σ H o i v ov iv u Q I ro ri rv h
  obtain ⟨x, y, z, G, Q0, rx, ry, rz, hg, h, k⟩ := h
  unfold uSet at h
  split at h
  · rename_i a
    cases rx
    split at h
    · rename_i us e1
      obtain ⟨xs, h1, r1⟩ := hg.lst e1
      split at h
      · split at h
        · rename_i j hj
          cases ry
          obtain ⟨e, g⟩ := hg.setLst e1 (r1.set rz j)
          exact set_list pins s σ H _ _ v ov iv u Q I ro ri rv ⟨a, xs, _, j, rfl, rfl, h1, by rw [← r1.length]; exact hj, k _ _ h g e⟩
        · exact h.elim
      · exact h.elim
    · rename_i kvs e1
      obtain ⟨xs, h1, r1⟩ := hg a _ e1
      split at h
      · rename_i kk hk
        have ek := key_rel ry hk
        subst ek
        have e : Ext H (upd H a (.dK (putK xs kk v))) := .wr h1 (fun _ z => by cases z) (fun _ _ z => by cases z)
        refine set_dict hu pins s σ H _ _ v ov iv u Q I ro ri rv ⟨a, _, rfl, DPut.k h1 (by rw [← r1.length]; exact h.1), k _ _ h.2 (hg.put e ⟨_, upd_same, RKV.ext e (RKV.put rz r1)⟩) e⟩
      · exact h.elim
    · exact h.elim
  · exact h.elim
def cIp (K : PySem.W.Frag) (r : UOp) : TIp := fun x y H Q => ∃ a b G Q0, RU K H a x ∧ RU K H b y ∧ HR K G H ∧ r a b G Q0 ∧ ∀ z G' v H', Q0 z G' → RU K H' z v → HR K G' H' → Ext H H' → Q v H'
theorem pip_any {X : Cx} (op : Operator) : PIp X op (cIp X.K (uIp op)) := by
  intro pins s σ H x y v u Q I rx ry h
  obtain ⟨a, b, G, Q0, ra, rb, hg, h, k⟩ := h
  unfold uIp at h
  split at h
  · split at h
    · cases ra; cases rb
      exact ip_add pins s σ H _ _ v u Q I rx ry ⟨_, _, rfl, rfl, k _ G _ H h (.int _) hg .refl⟩
    · exact h.elim
  · split at h
    · cases ra; cases rb
      exact ip_sub pins s σ H _ _ v u Q I rx ry ⟨_, _, rfl, rfl, k _ G _ H h (.int _) hg .refl⟩
    · exact h.elim
  · exact h.elim
theorem get_list {X : Cx} : PGet X (fun x y H Q => ∃ p xs i v, x = .ref p ∧ y = .int i ∧ H p = some (.lst xs) ∧ atI xs i = some v ∧ Q v H) := by
  intro pins s σ H x y v u Q I rx ry h
  obtain ⟨p, xs, i, z, rfl, rfl, hp, he, q⟩ := h
  cases rx
  obtain ⟨t, rfl⟩ := ry
  obtain ⟨its, r, pl, hz⟩ := I.list (SqL.of hp)
  obtain ⟨j, h1, h2, h3, h4, h5⟩ := atI_get he
  obtain ⟨w, ew, rw'⟩ := r.get h2
  have hl := r.length
  have hn := line63
  by_cases h0 : 0 ≤ i
  · have hj : i.toNat = j := Option.some.inj ((seqIndex_of h0 h5).symm.trans h1)
    exact wpAny_getItem_list pl.isList h0 (by omega) (by rw [hj]; simpa using ew) ⟨z, H, I, rw', q⟩
  · have hj : (i + (its.toArray.size : Int)).toNat = j := by
      rw [List.size_toArray, ← hl]
      exact Option.some.inj ((seqIndex_neg (by omega) h4).symm.trans h1)
    exact wpAny_getItem_list_neg pl.isList (by omega) (by rw [List.size_toArray] <;> omega) (by omega) (by rw [hj]; simpa using ew) ⟨z, H, I, rw', q⟩
theorem get_u {X : Cx} (hu : X.A.units + 1 < cLine) : PGet X (c2 X.K uGet) := by
  intro pins s σ H x y v u Q I rx ry h
  obtain ⟨a, b, G, Q0, ra, rb, hg, h, k⟩ := h
  unfold uGet at h
  split at h
  · unfold uIx at h
    simp only at h
    cases ra
    split at h
    · rename_i us e
      obtain ⟨xs, h1, r1⟩ := hg.lst e
      split at h
      · split at h
        · rename_i e2
          cases rb
          obtain ⟨vv, e3, r2⟩ := atI_rel r1 e2
          exact get_list pins s σ H _ _ v u Q I rx ry ⟨_, xs, _, vv, rfl, rfl, h1, e3, k _ G _ H h r2 hg .refl⟩
        · exact h.elim
      · exact h.elim
    · rename_i kvs e
      obtain ⟨xs, h1, r1⟩ := hg _ _ e
      split at h
      · rename_i kk hk
        split at h
        · rename_i u' hu'
          have ek := key_rel rb hk
          subst ek
          rcases lookK_rel r1 kk with ⟨e1, _⟩ | ⟨u2, v2, e1, e2, r2⟩
          · rw [e1] at hu'; cases hu'
          · rw [e1] at hu'
            cases hu'
            cases (show v = Value.ref _ from rx)
            exact d_getItem hu I (by rw [← e2]; exact DGet.k h1) ry fun w' s' I' r' => ⟨v2, H, I', r', k _ G _ H h r2 hg .refl⟩
        · exact h.elim
      · exact h.elim
    · exact h.elim
  · exact h.elim
theorem plain_st {o i : Expr} {pos : Pos} {env : Env} (h : notSl i = true) : ∀ v, assign (.Subscript o i pos) env v = (do
      let ov ← holding [v] (eval o env)
      let iv ← holding [v, ov] (eval i env)
      standAt pos
      holding [v, ov, iv] (setItem ov iv v)
      release [v, ov, iv] []) := by
  intro v
  cases i <;> first | rfl | cases h
theorem plain_aug {i : Expr} (h : notSl i = true) : ∀ ov iv new, augStore i ov iv new = (do holding [new, ov, iv] (setItem ov iv new); release [new, ov, iv] []; pure .next) := by
  intro ov iv new
  cases i <;> first | rfl | cases h
theorem dedup2 {x y : Str} (h : x ≠ y) : [x, y].eraseDups = [x, y] := by
  have h' : (y == x) = false := by simpa using fun z : y = x => h z.symm
  simp [List.eraseDups_cons, List.filter, h']
theorem dedup3 {x y z : Str} (h : x ≠ y) (h2 : x ≠ z) (h3 : y ≠ z) : [x, y, z].eraseDups = [x, y, z] := by
  have h' : (y == x) = false := by simpa using fun w : y = x => h w.symm
  have h2' : (z == x) = false := by simpa using fun w : z = x => h2 w.symm
  have h3' : (z == y) = false := by simpa using fun w : z = y => h3 w.symm
  simp [List.eraseDups_cons, List.filter, h', h2', h3']
theorem no_star {env : Env} : ∀ {es : List Expr}, es.all notStar = true → (es.any fun | .Starred .. => true | _ => false) = false
  | [], _ => rfl
  | e :: es, h => by
    simp only [List.all_cons, Bool.and_eq_true] at h
    rw [List.any_cons, no_star (env := env) h.2, Bool.or_false]
    cases e <;> first | rfl | cases h.1
theorem sw_two {env : Env} {x y : Str} {px py pp p2 : Pos} {kk k2 : Nat} {a b : Expr} (hb : env.blockKind = .function) (hx : env.scope.names.lookup x = some .local) (hy : env.scope.names.lookup y = some .local) (hn : x ≠ y) (hl : (py.line == px.line) = true)
    (hs : [a, b].all notStar = true) (hf : [a, b].all (foldedForSure 8) = false) (hk : [a, b].all (constantsAlone 8) = false) : swappedStores [.Tuple [.Name x px, .Name y py] kk pp] (.Tuple [a, b] k2 p2) env = pure (some [x, y]) := by
  have e1 : (env.kindOf x == some .local) = true := by unfold Env.kindOf; rw [hx]; rfl
  have e2 : (env.kindOf y == some .local) = true := by unfold Env.kindOf; rw [hy]; rfl
  unfold swappedStores
  dsimp only
  split
  · rename_i c
    rw [hb] at c
    exact Bool.noConfusion (show false = true from c)
  · split
    · rename_i c
      exact absurd ((no_star (env := env) hs).symm.trans c) (by decide)
    · have en : (List.filterMap (fun | Expr.Name id pos => if (env.kindOf id == some NameKind.local && pos.line == (([Expr.Name x px, Expr.Name y py].head?.map (·.pos.line)).getD 0)) = true then some id else none | _ => none) [Expr.Name x px, Expr.Name y py]) = [x, y] := by
        simp only [List.filterMap_cons, List.filterMap_nil, e1, e2, List.head?_cons, Option.map_some, Option.getD_some, Expr.pos, beq_self_eq_true, Bool.and_self, if_true, hl]
      split
      · rename_i c
        exact absurd c (by
          show ¬ (((List.filterMap _ [Expr.Name x px, Expr.Name y py]).length != 2 || (List.filterMap _ [Expr.Name x px, Expr.Name y py]).eraseDups.length != (List.filterMap _ [Expr.Name x px, Expr.Name y py]).length) = true)
          erw [en, dedup2 hn]
          exact fun z => Bool.noConfusion (show false = true from z))
      · rw [if_neg (by rw [hf]; decide), if_neg (by rw [hk]; decide)]
        exact congrArg (fun z => pure (some z)) en
theorem sw_three {env : Env} {x y z : Str} {px py pz pp p2 : Pos} {kk k2 : Nat} {a b c : Expr} (hb : env.blockKind = .function) (hx : env.scope.names.lookup x = some .local) (hy : env.scope.names.lookup y = some .local) (hz : env.scope.names.lookup z = some .local) (hn : x ≠ y) (hn2 : x ≠ z) (hn3 : y ≠ z)
    (hl : (py.line == px.line) = true) (hl2 : (pz.line == px.line) = true)
    (hs : [a, b, c].all notStar = true) (hf : [a, b, c].all (foldedForSure 8) = false) (hk : [a, b, c].all (constantsAlone 8) = false) : swappedStores [.Tuple [.Name x px, .Name y py, .Name z pz] kk pp] (.Tuple [a, b, c] k2 p2) env = pure (some [x, y, z]) := by
  have e1 : (env.kindOf x == some .local) = true := by unfold Env.kindOf; rw [hx]; rfl
  have e2 : (env.kindOf y == some .local) = true := by unfold Env.kindOf; rw [hy]; rfl
  have e3 : (env.kindOf z == some .local) = true := by unfold Env.kindOf; rw [hz]; rfl
  unfold swappedStores
  dsimp only
  split
  · rename_i c
    rw [hb] at c
    exact Bool.noConfusion (show false = true from c)
  · split
    · rename_i c
      exact absurd ((no_star (env := env) hs).symm.trans c) (by decide)
    · have en : (List.filterMap (fun | Expr.Name id pos => if (env.kindOf id == some NameKind.local && pos.line == (([Expr.Name x px, Expr.Name y py, Expr.Name z pz].head?.map (·.pos.line)).getD 0)) = true then some id else none | _ => none) [Expr.Name x px, Expr.Name y py, Expr.Name z pz]) = [x, y, z] := by
        simp only [List.filterMap_cons, List.filterMap_nil, e1, e2, e3, List.head?_cons, Option.map_some, Option.getD_some, Expr.pos, beq_self_eq_true, Bool.and_self, if_true, hl, hl2]
      split
      · rename_i c
        exact absurd c (by
          show ¬ (((List.filterMap _ [Expr.Name x px, Expr.Name y py, Expr.Name z pz]).length != 3 || (List.filterMap _ [Expr.Name x px, Expr.Name y py, Expr.Name z pz]).eraseDups.length != (List.filterMap _ [Expr.Name x px, Expr.Name y py, Expr.Name z pz]).length) = true)
          erw [en, dedup3 hn hn2 hn3]
          exact fun z => Bool.noConfusion (show false = true from z))
      · rw [if_neg (by rw [hf]; decide), if_neg (by rw [hk]; decide)]
        exact congrArg (fun z => pure (some z)) en
theorem xd_end {H1 : Hp} {a d C : Addr} {fs : List (Str × V)} (ha : H1 a = none) (hda : d ≠ a) :
    upd (del (upd (upd (upd H1 a (exo a C none)) d (exd d fs)) a (exo a C (some d))) a) d (.xd fs) = upd H1 d (.xd fs) := by
  funext b
  by_cases hb : b = d
  · subst hb; rw [upd_same, upd_same]
  · rw [upd_ne hb, upd_ne hb]
    by_cases hb2 : b = a
    · subst hb2; rw [del_same, ha]
    · rw [del_ne hb2, upd_ne hb2, upd_ne hb, upd_ne hb2]
theorem CtxS.tr {X : Cx} {sc : Scope} {tb : Tab2} {Γ : Gam} (C : CtxS X sc tb Γ) (pn : List (Addr × Obj)) (xe : Value → Shared → Prop) (hp : PassesOwn (model X.prog X.w) X.A X.env xe) : CtxS (X.tr pn xe) sc tb Γ where
  sco := ⟨C.sco.vis, C.sco.loc, C.sco.gl, C.sco.cf⟩
  nd := C.nd
  calm := C.calm
  hu := C.hu
  fns := fun i x h => ⟨(C.fns i x h).ex, (C.fns i x h).db⟩
  gls := C.gls
  blt := C.blt
  scE := C.scE
  knd := C.knd
  own := hp
  stk := C.stk
  frm := C.frm
  xcs := fun i x fs h => ⟨(C.xcs i x fs h).ex, (C.xcs i x fs h).db⟩
  sub := C.sub
section
variable {tb : Tab2} {Γ : Gam}
theorem loc_of {X : Cx} {sc : Scope} (C : CtxS X sc tb Γ) {i : Nat} {x : Str} (h : locOnly X.N sc i x = true) : X.N[i]? = some x ∧ X.env.scope.names.lookup x = some .local := by
  unfold locOnly at h
  simp only [Bool.and_eq_true, decide_eq_true_eq] at h
  rw [C.scE]
  exact h
mutual
theorem sS : ∀ (st : Sm) {X : Cx} {sc : Scope} {nt : Bool}, CtxS X sc tb Γ → ∀ x : Stmt, chkS X.N sc tb nt st x = true → PS X x (cS X tb nt (trS tb Γ st))
  | .asg t e, X, sc, nt, C, x, h => by
    unfold chkS at h
    split at h
    · simp only [Bool.and_eq_true, Bool.not_eq_true'] at h
      obtain ⟨⟨⟨⟨h1, h2⟩, h3⟩, h4⟩, h5⟩ := h
      refine ⟨fun pins s σ H D I q => ?_⟩
      obtain ⟨B, D0, s0, G, hB, tk, hs, hg, eB, q, P⟩ := q
      refine (ps_asg (sE e C.toCtxOk D0.ex tk _ h5) (sG C.toCtxOk t _ h4) (sw_not C.scE C.knd h2) (sw_stores_none C.scE C.knd h3) (by rw [assign_each h1]; rfl)).run pins s σ H D I ?_
      exact ⟨s0, G, _, hs, hg, q, fun u G1 v H1 q1 r1 g1 e1 => ⟨u, s0, G1, D0.nx, r1, hs.ext e1, g1, q1, fun s' G' σ' H' q' hs' hg' e' _ _ => P.nx s' G' σ' H' q' hs' hg' (eB.trans (e1.trans e'))⟩⟩
    · cases h
  | .par2 i j es, X, sc, nt, C, x, h => by
    unfold chkS at h
    split at h
    · rename_i x px y py kk pp a b k2 p2 pos
      simp only [Bool.and_eq_true, Bool.not_eq_true', decide_eq_true_eq] at h
      obtain ⟨⟨⟨⟨⟨⟨⟨⟨⟨h1, h2⟩, h3⟩, h4⟩, h5⟩, h6⟩, h7⟩, h8⟩, h9⟩, h10⟩ := h
      obtain ⟨n1, l1⟩ := loc_of C h1
      obtain ⟨n2, l2⟩ := loc_of C h2
      have hb : X.env.blockKind = .function := by unfold Env.blockKind; rw [C.scE, C.knd]; rfl
      have sw : swappedStores [.Tuple [.Name x px, .Name y py] kk pp] (.Tuple [a, b] k2 p2) X.env = pure (some [x, y]) :=
        sw_two hb l1 l2 h4 h5 (by simp [h6, h7]) h8 h9
      refine ⟨fun pins s σ H D I q => ?_⟩
      obtain ⟨B, D0, s0, G, hB, tk, hs, hg, eB, q, P⟩ := q
      refine (ps_par C.calm C.nd n1 n2 h3 l1 l2 (sA es C.toCtxOk D0.ex tk _ h10) sw).run pins s σ H D I ?_
      refine ⟨s0, G, _, hs, hg, q, fun us G1 vs H1 q1 r1 g1 e1 => ?_⟩
      split at q1
      · cases r1 with
        | cons r r1 =>
          cases r1 with
          | cons r2 r1 =>
            cases r1
            refine ⟨_, _, rfl, P.nx _ G1 _ H1 q1 ?_ g1 (eB.trans e1)⟩
            rw [setS_eq, setS_eq]
            exact ((hs.ext e1).set r).set r2
      · exact q1.elim
    · cases h
  | .par3 i j l es, X, sc, nt, C, x, h => by
    unfold chkS at h
    split at h
    · rename_i x px y py z pz kk pp a b c k2 p2 pos
      simp only [Bool.and_eq_true, Bool.not_eq_true', decide_eq_true_eq] at h
      obtain ⟨⟨⟨⟨⟨⟨⟨⟨⟨⟨⟨⟨⟨⟨⟨⟨h1, h2⟩, h3⟩, d1⟩, d2⟩, d3⟩, d4⟩, d5⟩, d6⟩, p1⟩, p2'⟩, b1⟩, b2⟩, b3⟩, f1⟩, f2⟩, h10⟩ := h
      obtain ⟨n1, l1⟩ := loc_of C h1
      obtain ⟨n2, l2⟩ := loc_of C h2
      obtain ⟨n3, l3⟩ := loc_of C h3
      have hb : X.env.blockKind = .function := by unfold Env.blockKind; rw [C.scE, C.knd]; rfl
      have sw : swappedStores [.Tuple [.Name x px, .Name y py, .Name z pz] kk pp] (.Tuple [a, b, c] k2 p2) X.env = pure (some [x, y, z]) :=
        sw_three hb l1 l2 l3 d4 d5 d6 p1 p2' (by simp [b1, b2, b3]) f1 f2
      refine ⟨fun pins s σ H D I q => ?_⟩
      obtain ⟨B, D0, s0, G, hB, tk, hs, hg, eB, q, P⟩ := q
      refine (ps_par3 C.calm C.nd n1 n2 n3 d1 d2 d3 l1 l2 l3 (sA es C.toCtxOk D0.ex tk _ h10) sw).run pins s σ H D I ?_
      refine ⟨s0, G, _, hs, hg, q, fun us G1 vs H1 q1 r1 g1 e1 => ?_⟩
      split at q1
      · cases r1 with
        | cons r r1 =>
          cases r1 with
          | cons r2 r1 =>
            cases r1 with
            | cons r3 r1 =>
              cases r1
              refine ⟨_, _, _, rfl, P.nx _ G1 _ H1 q1 ?_ g1 (eB.trans e1)⟩
              rw [setS_eq, setS_eq, setS_eq]
              exact (((hs.ext e1).set r).set r2).set r3
      · exact q1.elim
    · cases h
  | .setLc i elt tg it c, X, sc, nt, C, x, h => by
    unfold chkS at h
    split at h
    · rename_i y py el t ii ifs scope pos spos
      simp only [Bool.and_eq_true, Bool.not_eq_true'] at h
      obtain ⟨⟨⟨h1, h2⟩, h3⟩, h4⟩ := h
      obtain ⟨n1, l1⟩ := loc_of C h1
      unfold chkE at h4
      simp only [Bool.and_eq_true] at h4
      obtain ⟨⟨⟨⟨⟨k1, k2⟩, k3⟩, k4⟩, k5⟩, k6⟩ := h4
      refine ⟨fun pins s σ H D I q => ?_⟩
      obtain ⟨B, D0, s0, G, hB, tk, hs, hg, eB, q, P⟩ := q
      have C0 := C.toCtxOk
      have R := ps_setLc (i := i) (py := py) (spos := spos) (pos := pos) (g := cG X.K (slotsG tg) (trG tg)) (te := cE X.K (trE Γ (fun _ _ _ => False) elt)) (tt := cT X.K (trC Γ (fun _ _ _ => False) c)) C.calm C.nd n1 l1 (sw_true (by rw [C.scE]; exact C.knd) l1 h2 h3)
        (sI it C0 D0.ex tk t ii k3) (blk_ok C0 k2) (fun s H Cc cl fp => sG (C0.blk s H scope Cc cl fp) tg t k4)
        (fun s H Cc cl fp => sC c (C0.blk s H scope Cc cl fp) (fun _ _ _ => False) (takes_false fun _ _ _ _ z => by obtain ⟨_, _, _, _, _, _, z⟩ := z; exact z) ifs k5)
        (fun s H Cc cl fp => sE elt (C0.blk s H scope Cc cl fp) (fun _ _ _ => False) (takes_false fun _ _ _ _ z => by obtain ⟨_, _, _, _, _, _, z⟩ := z; exact z) el k6) (not_set k1)
      rw [own_snd] at R
      refine R.run pins s σ H D I ?_
      refine lc_conv ⟨s0, G, _, hs, hg, q, fun u G1 v H1 q1 r1 g1 e1 => P.nx _ G1 _ H1 q1 ?_ g1 (eB.trans e1)⟩
      rw [setS_eq]
      exact (hs.ext e1).set r1
    · cases h
  | .sub o i e, X, sc, nt, C, x, h => by
    unfold chkS at h
    split at h
    · simp only [Bool.and_eq_true, Bool.not_eq_true'] at h
      obtain ⟨⟨⟨⟨h1, h2⟩, h3⟩, h4⟩, h5⟩ := h
      refine ⟨fun pins s σ H D I q => ?_⟩
      obtain ⟨B, D0, s0, G, hB, tk, hs, hg, eB, q, P⟩ := q
      refine (ps_asg (sE e C.toCtxOk D0.ex tk _ h4) (pg_sub (sE o C.toCtxOk D0.ex tk _ h2) (sE i C.toCtxOk D0.ex tk _ h3) (pset_any (by have := C.hu; omega)) (plain_st h1)) (sw_not C.scE C.knd h5) (sw_stores_none C.scE C.knd (by cases ‹Expr› <;> rfl)) rfl).run pins s σ H D I ?_
      refine ⟨s0, G, _, hs, hg, q, fun u G1 v H1 q1 r1 g1 e1 => ⟨s0, G1, _, hs.ext e1, g1, q1, fun x G2 v2 H2 q2 r2 g2 e2 => ⟨s0, G2, _, hs.ext (e1.trans e2), g2, q2, fun y G3 v3 H3 q3 r3 g3 e3 => ?_⟩⟩⟩
      exact ⟨x, y, u, G3, _, RU.ext e3 r2, r3, RU.ext (e2.trans e3) r1, g3, q3, fun G4 H4 q4 g4 e4 => P.nx s0 G4 σ H4 q4 (hs.ext (((e1.trans e2).trans e3).trans e4)) g4 (eB.trans (((e1.trans e2).trans e3).trans e4))⟩
    · cases h
  | .aug i op e, X, sc, nt, C, x, h => by
    unfold chkS at h
    split at h
    · simp only [Bool.and_eq_true, decide_eq_true_eq] at h
      obtain ⟨⟨⟨h1, h2⟩, h3⟩, h4⟩ := h
      subst h1
      obtain ⟨hl, hf⟩ := C.sco.loc _ h3
      refine ⟨fun pins s σ H D I q => ?_⟩
      obtain ⟨B, D0, s0, G, hB, tk, hs, hg, eB, q, P⟩ := q
      refine (ps_aug C.nd h2 hl (sE e C.toCtxOk D0.ex tk _ h4) (pip_any op) hf).run pins s σ H D I ?_
      unfold trS at q
      split at q
      · rename_i u hu
        obtain ⟨v, hv, rv⟩ := hs.at_ i u (getS_some hu)
        refine ⟨v, hv, s0, G, _, hs, hg, q, fun y G1 w H1 q1 r1 g1 e1 => ⟨u, y, G1, _, RU.ext e1 rv, r1, g1, q1, fun z G2 w2 H2 q2 r2 g2 e2 => P.nx _ G2 _ H2 q2 ?_ g2 (eB.trans (e1.trans e2))⟩⟩
        rw [setS_eq]
        exact (hs.ext (e1.trans e2)).set r2
      · exact q.elim
    · cases h
  | .augS o i op e, X, sc, nt, C, x, h => by
    unfold chkS at h
    split at h
    · simp only [Bool.and_eq_true, decide_eq_true_eq] at h
      obtain ⟨⟨⟨⟨h1, h2⟩, h3⟩, h4⟩, h5⟩ := h
      subst h1
      refine ⟨fun pins s σ H D I q => ?_⟩
      obtain ⟨B, D0, s0, G, hB, tk, hs, hg, eB, q, P⟩ := q
      refine (ps_augS (sE o C.toCtxOk D0.ex tk _ h3) (sE i C.toCtxOk D0.ex tk _ h4) (get_u (by have := C.hu; omega)) (sE e C.toCtxOk D0.ex tk _ h5) (pip_any op) (pset_any (by have := C.hu; omega)) (plain_aug h2)).run pins s σ H D I ?_
      refine ⟨s0, G, _, hs, hg, q, fun x G1 v1 H1 q1 r1 g1 e1 => ⟨s0, G1, _, hs.ext e1, g1, q1, fun y G2 v2 H2 q2 r2 g2 e2 => ?_⟩⟩
      refine ⟨x, y, G2, _, RU.ext e2 r1, r2, g2, q2, fun z G3 v3 H3 q3 r3 g3 e3 => ⟨s0, G3, _, hs.ext ((e1.trans e2).trans e3), g3, q3, fun v G4 v4 H4 q4 r4 g4 e4 => ?_⟩⟩
      refine ⟨z, v, G4, _, RU.ext e4 r3, r4, g4, q4, fun w G5 v5 H5 q5 r5 g5 e5 => ?_⟩
      exact ⟨x, y, w, G5, _, RU.ext (((e2.trans e3).trans e4).trans e5) r1, RU.ext ((e3.trans e4).trans e5) r2, r5, g5, q5, fun G6 H6 q6 g6 e6 => P.nx s0 G6 σ H6 q6 (hs.ext (((((e1.trans e2).trans e3).trans e4).trans e5).trans e6)) g6 (eB.trans (((((e1.trans e2).trans e3).trans e4).trans e5).trans e6))⟩
    · cases h
  | .expr e, X, sc, nt, C, x, h => by
    unfold chkS at h
    split at h
    · simp only [Bool.and_eq_true, Bool.not_eq_true'] at h
      refine ⟨fun pins s σ H D I q => ?_⟩
      obtain ⟨B, D0, s0, G, hB, tk, hs, hg, eB, q, P⟩ := q
      refine (ps_expr (sE e C.toCtxOk D0.ex tk _ h.2) (sw_none h.1)).run pins s σ H D I ?_
      exact ⟨s0, G, _, hs, hg, q, fun u G1 v H1 q1 r1 g1 e1 => P.nx s0 G1 σ H1 q1 (hs.ext e1) g1 (eB.trans e1)⟩
    · cases h
  | .doc, X, sc, nt, C, x, h => by
    unfold chkS at h
    split at h
    · refine PS.weak ps_doc fun D σ H q => ?_
      obtain ⟨B, D0, s0, G, hB, tk, hs, hg, eB, q, P⟩ := q
      exact P.nx s0 G σ H q hs hg eB
    · cases h
  | .ret e, X, sc, nt, C, x, h => by
    unfold chkS at h
    split at h
    · refine ⟨fun pins s σ H D I q => ?_⟩
      obtain ⟨B, D0, s0, G, hB, tk, hs, hg, eB, q, P⟩ := q
      refine (ps_ret (sE e C.toCtxOk D0.ex tk _ h)).run pins s σ H D I ?_
      exact ⟨s0, G, _, hs, hg, q, fun u G1 v H1 q1 r1 g1 e1 => P.rt u G1 v H1 q1 r1 g1 (eB.trans e1)⟩
    · cases h
  | .retN, X, sc, nt, C, x, h => by
    unfold chkS at h
    split at h
    · refine PS.weak ps_retN fun D σ H q => ?_
      obtain ⟨B, D0, s0, G, hB, tk, hs, hg, eB, q, P⟩ := q
      exact P.rt .non G .non H q .non hg eB
    · cases h
  | .ife c a b, X, sc, nt, C, x, h => by
    unfold chkS at h
    split at h
    · simp only [Bool.and_eq_true] at h
      obtain ⟨⟨h1, h2⟩, h3⟩ := h
      refine ⟨fun pins s σ H D I q => ?_⟩
      obtain ⟨B, D0, s0, G, hB, tk, hs, hg, eB, q, P⟩ := q
      refine (ps_if (sT c C.toCtxOk D0.ex tk _ h1) (sSs a C _ h2) (sSs b C _ h3)).run pins s σ H D I ?_
      refine ⟨s0, G, _, hs, hg, q, fun k G1 H1 q1 g1 e1 => ?_⟩
      cases k with
      | true => exact ⟨B, D0, s0, G1, hB, tk, hs.ext e1, g1, eB.trans e1, by simpa using q1, P⟩
      | false => exact ⟨B, D0, s0, G1, hB, tk, hs.ext e1, g1, eB.trans e1, by simpa using q1, P⟩
    · cases h
  | .whl c b, X, sc, nt, C, x, h => by
    unfold chkS at h
    split at h
    · simp only [Bool.and_eq_true] at h
      obtain ⟨h1, h2⟩ := h
      refine ⟨fun pins s σ H D I q => ?_⟩
      obtain ⟨B, D0, s0, G, hB, tk, hs, hg, eB, q, P⟩ := q
      refine (ps_while C.own (sT c C.toCtxOk D0.ex tk _ h1) (sSs b C _ h2)).run pins s σ H D I ?_
      obtain ⟨Iv, ⟨m, h0⟩, q⟩ := q
      refine ⟨fun m σ1 H1 => ∃ s1 G1, SR X.K H1 s1 σ1 ∧ HR X.K G1 H1 ∧ Ext B H1 ∧ Iv m s1 G1, ⟨m, s0, G, hs, hg, eB, h0⟩, fun m σ1 H1 w => ?_⟩
      obtain ⟨s1, G1, hs1, hg1, eB1, w⟩ := w
      refine ⟨s1, G1, _, hs1, hg1, q m s1 G1 w, fun k G2 H2 q2 g2 e2 => ?_⟩
      cases k with
      | true =>
        simp only [if_true] at q2 ⊢
        refine ⟨fun σ3 H3 => ∃ m' s3 G4, m' < m ∧ SR X.K H3 s3 σ3 ∧ HR X.K G4 H3 ∧ Ext B H3 ∧ Iv m' s3 G4, fun σ3 H3 z => ?_, ?_⟩
        · obtain ⟨m', s3, G4, z1, z2, z3, z4, z5⟩ := z
          exact ⟨m', z1, s3, G4, z2, z3, z4, z5⟩
        · refine ⟨B, ⟨fun s2 G3 => ∃ m' G4, m' < m ∧ Le G4 G3 ∧ Iv m' s2 G4, D0.rt, D0.nx, fun s2 G3 => ∃ m' G4, m' < m ∧ Le G4 G3 ∧ Iv m' s2 G4, D0.ex⟩, s1, G2, hB, tk, hs1.ext e2, g2, eB1.trans e2, q2, ⟨?_, ?_, ?_, ?_⟩⟩
          · rintro s3 G3 σ3 H3 ⟨m', G4, z1, z2, z3⟩ hs3 hg3 eB3
            exact ⟨m', s3, G4, z1, hs3, hg3.le z2, eB3, z3⟩
          · exact P.rt
          · exact P.nx
          · rintro s3 G3 σ3 H3 ⟨m', G4, z1, z2, z3⟩ hs3 hg3 eB3
            exact ⟨m', s3, G4, z1, hs3, hg3.le z2, eB3, z3⟩
      | false =>
        simp only [Bool.false_eq_true, if_false] at q2 ⊢
        exact P.nx s1 G2 σ1 H2 q2 (hs1.ext e2) g2 (eB1.trans e2)
    · cases h
  | .for_ t it b, X, sc, nt, C, x, h => by
    unfold chkS at h
    split at h
    · simp only [Bool.and_eq_true] at h
      obtain ⟨⟨⟨h1, h2⟩, h3⟩, h4⟩ := h
      refine ⟨fun pins s σ H D I q => ?_⟩
      obtain ⟨B, D0, s0, G, hB, tk, hs, hg, eB, q, P⟩ := q
      refine (ps_for C.own C.calm (sI it C.toCtxOk D0.ex tk _ _ h3) (sG C.toCtxOk t _ h2) (sSs b (nt := true) C _ h4) (not_set h1)).run pins s σ H D I ?_
      refine ⟨s0, G, _, hs, hg, q, fun ds ys G1 H1 J q1 g1 e1 ir => ?_⟩
      have f0 : ∀ i, i < ys.length → ∃ u, ys[i]? = some u ∧ ys.drop i = u :: ys.drop (i + 1) := fun i hi => ⟨ys[i], by simp [hi], by rw [List.drop_eq_getElem_cons hi]⟩
      refine ⟨fun i m σ2 H2 => i + m = ys.length ∧ ∃ s2 G2, SR X.K H2 s2 σ2 ∧ HR X.K G2 H2 ∧ Ext H1 H2 ∧ forU ds (trG t) (trSs tb Γ b) D0 (ys.drop i) s2 G2, ⟨ys.length, by omega, s0, G1, hs.ext e1, g1, .refl, by simpa using q1⟩, fun i m σ2 H2 w => ?_⟩
      obtain ⟨hm, s2, G2, hs2, hg2, e2, f⟩ := w
      by_cases hi : i < ys.length
      · obtain ⟨u, hu, hd⟩ := f0 i hi
        rw [hd] at f
        unfold forU at f
        obtain ⟨dk, gq⟩ := f
        refine .inr ⟨ir.go i G2 H2 hg2 dk e2 hi, fun σ3 H3 => ∃ s3 G3, SR X.K H3 s3 σ3 ∧ HR X.K G3 H3 ∧ Ext H1 H3 ∧ forU ds (trG t) (trSs tb Γ b) D0 (ys.drop (i + 1)) s3 G3, fun σ3 H3 z => ⟨m - 1, by omega, by omega, z⟩, fun x H3 yl => ?_⟩
        obtain ⟨u', hu', ru, hg3, e3⟩ := ir.yld i G2 H2 x H3 hg2 dk e2 yl hi
        rw [hu] at hu'
        cases hu'
        refine ⟨u, s2, G2, _, ru, hs2.ext e3, hg3, gq, fun s4 G4 σ4 H4 q4 hs4 hg4 e4 _ _ => ?_⟩
        refine ⟨H1, ⟨fun s2 G2 => ∃ G3, Le G3 G2 ∧ forU ds (trG t) (trSs tb Γ b) D0 (ys.drop (i + 1)) s2 G3, D0.rt, D0.nx, fun s2 G2 => ∃ G3, Le G3 G2 ∧ forU ds (trG t) (trSs tb Γ b) D0 (ys.drop (i + 1)) s2 G3, D0.ex⟩, s4, G4, .inl rfl, tk, hs4, hg4, (e2.trans e3).trans e4, q4, ⟨?_, ?_, ?_, ?_⟩⟩
        · rintro s5 G5 σ5 H5 ⟨G6, z1, z2⟩ hs5 hg5 e5
          exact ⟨s5, G6, hs5, hg5.le z1, e5, z2⟩
        · intro u G v H q r g e
          exact P.rt u G v H q r g ((eB.trans e1).trans e)
        · intro s G σ H q r g e
          exact P.nx s G σ H q r g ((eB.trans e1).trans e)
        · rintro s5 G5 σ5 H5 ⟨G6, z1, z2⟩ hs5 hg5 e5
          exact ⟨s5, G6, hs5, hg5.le z1, e5, z2⟩
      · have ei : i = ys.length := by omega
        subst ei
        rw [List.drop_length] at f
        unfold forU at f
        exact .inl ⟨ir.stop G2 H2 hg2 f.1 e2, P.nx s2 G2 σ2 H2 f.2 hs2 hg2 ((eB.trans e1).trans e2)⟩
    · cases h
  | .brk, X, sc, nt, C, x, h => by
    unfold chkS at h
    split at h
    · refine PS.weak ps_break fun D σ H q => ?_
      obtain ⟨B, D0, s0, G, hB, tk, hs, hg, eB, q, P⟩ := q
      exact P.bk s0 G σ H q hs hg eB
    · cases h
  | .cont, X, sc, nt, C, x, h => by
    unfold chkS at h
    split at h
    · refine PS.weak ps_continue fun D σ H q => ?_
      obtain ⟨B, D0, s0, G, hB, tk, hs, hg, eB, q, P⟩ := q
      exact P.ct s0 G σ H q hs hg eB
    · cases h
  | .pass, X, sc, nt, C, x, h => by
    unfold chkS at h
    split at h
    · refine PS.weak ps_pass fun D σ H q => ?_
      obtain ⟨B, D0, s0, G, hB, tk, hs, hg, eB, q, P⟩ := q
      exact P.nx s0 G σ H q hs hg eB
    · cases h
  | .raise k es, X, sc, nt, C, x, h => by
    unfold chkS at h
    split at h
    · simp only [Bool.and_eq_true, decide_eq_true_eq] at h
      obtain ⟨⟨h1, h2⟩, h3⟩ := h
      rw [Option.map_eq_some_iff] at h1
      obtain ⟨⟨x, fs⟩, hk, rfl⟩ := h1
      obtain ⟨⟨Cc, fI, fd, kk, ps, sp, hm, T, To, iC, tI, F1, hr, hb, hl, hsp⟩, db⟩ := C.xcs k x fs hk
      have st := chkA_star h3
      simp only [List.all_cons, Bool.and_eq_true] at st
      refine ⟨fun pins s σ H D I q => ?_⟩
      obtain ⟨B, D0, s0, G, hB, tk, hs, hg, eB, q, P⟩ := q
      refine (ps_raise C.calm tk (pmk_oex To iC tI F1 hr hb .nil (fun _ _ _ _ _ _ _ z => by obtain ⟨_, _, _, _, _, _, _, _, _, _, _, _, z⟩ := z; exact z.elim) (C.sco.gl _ h2) hm (sA es C.toCtxOk D0.ex tk _ h3) db (star_each st.1) (star_any st.2))).run pins s σ H D I ?_
      refine ⟨s0, G, _, hs, hg, q, fun us G1 vs H1 q1 r1 g1 e1 => ?_⟩
      obtain ⟨l1, q1⟩ := q1
      rw [hk] at l1
      simp only [Option.map_some, Option.some.injEq] at l1
      have l2 := r1.length
      refine ⟨by omega, fun a ha => ?_⟩
      rw [List.append_nil]
      refine hsp a vs _ _ (by omega) upd_same fun d hd hda => ⟨rfl, d, _, upd_same, (upd_ne hda).trans upd_same, ?_, ?_⟩
      · rw [upd_ne hda] at hd; exact hd
      · rw [upd_ne hda] at hd
        rw [xd_end ha hda]
        have e2 : Ext H1 (upd H1 d (.xd (fs.zip vs.reverse))) := .new hd
        exact ⟨(k, us.reverse), s0, G1, hs.ext (e1.trans e2), g1.side e2 (g1.fresh hd), ⟨x, fs, Cc, d, vs.reverse, hk, hm, rfl, rfl, upd_same, by rw [List.length_reverse]; omega, RUs.ext e2 r1.reverse⟩, q1⟩
    · cases h
  | .tryAs b k i hx, X, sc, nt, C, x, h => by
    unfold chkS at h
    split at h
    · rename_i body x xp n v rp hp pos
      simp only [Bool.and_eq_true, Bool.not_eq_true', decide_eq_true_eq] at h
      obtain ⟨⟨⟨⟨⟨⟨⟨⟨h0, h1⟩, h2⟩, h3⟩, h4⟩, h5⟩, h6⟩, h7⟩, h8⟩ := h
      rw [Option.map_eq_some_iff] at h1
      obtain ⟨⟨x, fs⟩, hk, rfl⟩ := h1
      obtain ⟨⟨Cc, fI, fd, kk, ps, sp, hm, T, To, iC, tI, F1, hr, hb, hl, hsp⟩, db⟩ := C.xcs k x fs hk
      obtain ⟨n1, l1⟩ := loc_of C h4
      refine ⟨fun pins s σ H D I q => ?_⟩
      obtain ⟨B, D0, s0, G, hB, tk, hs, hg, eB, q, P⟩ := q
      rcases hB with hB | hB
      · rw [h0] at hB; cases hB
      subst hB
      have hi : i < X.N.length := by
        rw [List.getElem?_eq_some_iff] at n1
        exact n1.1
      refine (ps_try_as (i := i) (tb := fun W D σ H => ∃ D0 s G, (∀ cls d σ H, Ext X.H_0 H → σ.length = X.N.length → cW X.K X.mg tb.toTab D0.ex cls d σ H → W cls d σ H) ∧ SR X.K H s σ ∧ HR X.K G H ∧ Ext X.H_0 H ∧ trSs tb Γ b D0 s G ∧ Post X.K X.H_0 D0 D)
        (ts := fun a cls d => tRet (cH X.K a i cls d (trH hx))) (Wout := cW X.K X.mg tb.toTab D0.ex) C.stk C.frm C.nd n1 l1 ⟨C.sco.gl _ h2, h3, .inl hm⟩ tk ?_ ?_).run pins s σ H D I ?_
      · intro W pn xe tkW hp
        refine ⟨fun pins s σ H D I q => ?_⟩
        obtain ⟨D1, s1, G1, cw, hs1, hg1, e1, q1, P1⟩ := q
        exact (sSs b (nt := nt) (C.tr pn xe hp) _ h7).run pins s σ H D I ⟨X.H_0, D1, s1, G1, .inr rfl, takes_ext tkW fun c d σ H e l w => cw c d σ H e l w, hs1, hg1, e1, q1, P1⟩
      · intro a oe cls d pn hz hf
        exact pss_one (ps_ret (sH hz hf (fun p => pe_var n1 (.inl l1) h5 h6) hx _ h8))
      · refine ⟨_, s0, G, fun cls d σ' H' e' l' w => ?_, hs, hg, eB, q, ⟨P.nx, P.rt, P.bk, P.ct⟩⟩
        obtain ⟨xn, s1, G1, hs1, hg1, xr, w⟩ := w
        have xr0 := xr
        obtain ⟨x', fs', C', dx, vs, a1, a2, a3, a4, a5, a6, a7⟩ := xr
        obtain ⟨⟨C2, _, _, _, _, _, hm2, T2, _⟩, _⟩ := C.xcs xn.1 x' fs' a1
        rw [a2] at hm2
        cases hm2
        refine ⟨tb.sub xn.1 k, by rw [a3]; exact C.sub xn.1 k x' x fs' fs C' Cc a1 hk a2 hm, fun hb a ha => ?_, fun hb => ?_⟩
        · dsimp only at w
          rw [if_pos hb] at w
          obtain ⟨x2, fs2, b1, w⟩ := w
          rw [a1] at b1
          cases b1
          refine ⟨C', dx, fs', vs, xn.2, G1, D0.rt, List.getElem?_set_self (by omega), a3, T2, a4, a5, a6, a7, hg1, w, fun u G' v H'' q' r' g' e'' _ => P.rt u G' v H'' q' r' g' (e'.trans e'')⟩
        · dsimp only at w
          rw [hb, if_neg Bool.false_ne_true] at w
          exact ⟨xn, s1, G1, hs1, hg1, xr0, w⟩
    · cases h
theorem sSs : ∀ (st : Sms) {X : Cx} {sc : Scope} {nt : Bool}, CtxS X sc tb Γ → ∀ x : List Stmt, chkSs X.N sc tb nt st x = true → PSs X x (cS X tb nt (trSs tb Γ st))
  | .nil, X, sc, nt, C, [], h => by
    refine PSs.weak pss_nil fun D σ H q => ?_
    obtain ⟨B, D0, s0, G, hB, tk, hs, hg, eB, q, P⟩ := q
    exact P.nx s0 G σ H q hs hg eB
  | .nil, X, sc, nt, C, _ :: _, h => by cases h
  | .cons _ _, X, sc, nt, C, [], h => by cases h
  | .cons st ss, X, sc, nt, C, x :: xs, h => by
    simp only [chkSs, Bool.and_eq_true] at h
    refine PSs.weak (pss_cons (sS st C _ h.1) (sSs ss C _ h.2)) fun D σ H q => ?_
    obtain ⟨B, D0, s0, G, hB, tk, hs, hg, eB, q, P⟩ := q
    refine ⟨B, { D0 with nx := fun s1 G1 => trSs tb Γ ss D0 s1 G1 }, s0, G, hB, tk, hs, hg, eB, q, ⟨fun s1 G1 σ1 H1 q1 hs1 hg1 e1 => ?_, P.rt, P.bk, P.ct⟩⟩
    exact ⟨B, D0, s1, G1, hB, tk, hs1, hg1, e1, q1, P⟩
end
end
end UL
set_option Elab.async false
set_option linter.all false
set_option autoImplicit false
set_option maxRecDepth 100000
set_option maxHeartbeats 4000000
/-! UL15: a def keeps its promise. -/
namespace UL
open PySem PySem.Spec L2
def startU (N : List Str) (us : List U) : USt := us.map some ++ List.replicate (N.length - us.length) none
/-- but for what nobody holds any more -/
def fin (Q : UH → Prop) (G : UH) : Prop := ∃ G0, Le G0 G ∧ Q G0
theorem fin.of {Q : UH → Prop} {G : UH} (h : Q G) : fin Q G := ⟨G, .refl G, h⟩
def UD (Q : UK) (E : UXn → UH → Prop) : UE := ⟨fun _ G => fin (Q .non) G, fun u G => fin (Q u) G, fun _ _ => False, fun _ _ => False, fun xn _ G => fin (E xn) G⟩
abbrev Xcs := List (Str × List Str)
/-- a def of the text that keeps sp -/
structure Av (P : Program) (w : World) (K : PySem.W.Frag) (mg : Str → Option Value) (base : Heap) (xcs : Xcs) (k : Nat) (x : Str) (sp : USp) : Prop where
  ex : ∃ (f : Addr) (fd : FuncData) (ps : List Str), mg x = some (.ref f) ∧ PySem.W.keepIn K (.ref f) = true ∧ Binds K fd ps [] ∧ FnOk P w K mg base (CX P w) k f fd ps (cSp K mg ⟨[], [], xcs⟩ sp)
  db : (x == ("__debug__" : Str)) = false
structure AvX (P : Program) (w : World) (K : PySem.W.Frag) (mg : Str → Option Value) (base : Heap) (k : Nat) (x : Str) (fs : List Str) : Prop where
  ex : ∃ (C fI : Addr) (fd : FuncData) (ps : List Str) (sp : Sp), mg x = some (.ref C) ∧ XcCls K C fs ∧ OexC K C ∧ PySem.W.findIn K (.ref C) "__init__" = some (some (.ref fI)) ∧ PySem.W.typeIn K (.ref fI) = some (.type "function") ∧
    FnOk P w K mg base (CX P w) k fI fd ps sp ∧ Binds K fd ps [] ∧ fs.length ≤ 900 ∧
    ∀ (a : Addr) (ws : List V) (H : Hp) (Q : VK), ws.length = fs.length → H a = some (exo a C none) → (∀ d, H d = none → d ≠ a → Q .non (upd (upd H d (exd d (fs.zip ws.reverse))) a (exo a C (some d)))) → sp (.ref a :: ws) H Q (fun _ _ _ => False)
  db : (x == ("__debug__" : Str)) = false
/-- the written part, but for the defs -/
structure Wd (P : Program) (w : World) (K : PySem.W.Frag) (mg : Str → Option Value) (base : Heap) (xcs : Xcs) (sub : Nat → Nat → Bool) (gls : List (Str × U)) (k : Nat) : Prop where
  gls : ∀ p ∈ gls, ∃ w v, mg p.1 = some w ∧ RelV v w ∧ (∀ H, RU K H p.2 v) ∧ (p.1 == ("__debug__" : Str)) = false
  blt : ∀ x ∈ bltNames, mg x = none
  xc : ∀ p ∈ xcs, AvX P w K mg base k p.1 p.2
  sub : ∀ (i j : Nat) (x y : Str) (fs gs : List Str) (C D : Addr), xcs[i]? = some (x, fs) → xcs[j]? = some (y, gs) → mg x = some (.ref C) → mg y = some (.ref D) → PySem.W.exmOne K (.ref C) (.ref D) = some (sub i j)
def spAt : List (Str × USp) → Nat → USp
  | [], _ => fun _ _ _ _ => False
  | p :: _, 0 => p.2
  | _ :: r, i + 1 => spAt r i
def glAt : List (Str × U) → Nat → U
  | [], _ => .non
  | p :: _, 0 => p.2
  | _ :: r, i + 1 => glAt r i
def gam (cl : List (Str × USp)) (gls : List (Str × U)) : Gam := ⟨spAt cl, glAt gls⟩
def tabOf (cl : List (Str × USp)) (gls : List (Str × U)) (xcs : Xcs) (sub : Nat → Nat → Bool) : Tab2 := ⟨⟨cl.map (·.1), gls.map (·.1), xcs⟩, sub⟩
theorem spAt_ix : ∀ {cl : List (Str × USp)} {i : Nat} {x : Str}, (cl.map (·.1))[i]? = some x → (x, spAt cl i) ∈ cl
  | [], _, _, h => by simp at h
  | p :: _, 0, x, h => by simp at h; subst h; exact List.mem_cons_self
  | p :: r, i + 1, x, h => List.mem_cons_of_mem _ (spAt_ix (cl := r) (i := i) (by simpa using h))
theorem glAt_ix : ∀ {cl : List (Str × U)} {i : Nat} {x : Str}, (cl.map (·.1))[i]? = some x → (x, glAt cl i) ∈ cl
  | [], _, _, h => by simp at h
  | p :: _, 0, x, h => by simp at h; subst h; exact List.mem_cons_self
  | p :: r, i + 1, x, h => List.mem_cons_of_mem _ (glAt_ix (cl := r) (i := i) (by simpa using h))
theorem start_rel {K : PySem.W.Frag} {H : Hp} {N : List Str} {us : List U} {vs : List V} (r : RUs K H us vs) : SR K H (startU N us) (L2.start N vs) := by
  have l := r.length
  refine ⟨by simp [startU, L2.start, l], fun i u h => ?_⟩
  unfold startU at h
  by_cases hi : i < us.length
  · rw [List.getElem?_append_left (by simpa using hi)] at h
    rw [List.getElem?_map] at h
    cases e : us[i]? with
    | none => rw [e] at h; cases h
    | some u' =>
      rw [e] at h
      simp at h
      subst h
      obtain ⟨v, h1, h2⟩ := r.get e
      refine ⟨v, ?_, h2⟩
      unfold L2.start
      rw [List.getElem?_append_left (by simpa [← l] using hi), List.getElem?_map, h1]
      rfl
  · rw [List.getElem?_append_right (by simpa using hi)] at h
    rw [List.getElem?_replicate] at h
    split at h <;> cases h
section
variable {P : Program} {w : World} {K : PySem.W.Frag} {mg : Str → Option Value} {base : Heap} {xcs : Xcs} {sub : Nat → Nat → Bool} {gls : List (Str × U)} {cl : List (Str × USp)} {k : Nat}
theorem Av.mono {j : Nat} {x : Str} {sp : USp} (h : Av P w K mg base xcs j x sp) (l : j ≤ k) : Av P w K mg base xcs k x sp := by
  obtain ⟨f, fd, ps, h1, h2, h3, h4⟩ := h.ex
  exact ⟨⟨f, fd, ps, h1, h2, h3, h4.mono l⟩, h.db⟩
theorem AvX.mono {j : Nat} {x : Str} {fs : List Str} (h : AvX P w K mg base j x fs) (l : j ≤ k) : AvX P w K mg base k x fs := by
  obtain ⟨C, fI, fd, ps, sp, h1, h2, h3, h4, h5, h6, h7, h8, h9⟩ := h.ex
  exact ⟨⟨C, fI, fd, ps, sp, h1, h2, h3, h4, h5, h6.mono l, h7, h8, h9⟩, h.db⟩
theorem Wd.mono {j : Nat} (W : Wd P w K mg base xcs sub gls j) (l : j ≤ k) : Wd P w K mg base xcs sub gls k := ⟨W.gls, W.blt, fun p hp => (W.xc p hp).mono l, W.sub⟩
theorem vis_of {sc : Scope} {x : Str} (h : visB sc x = true) : Vis sc x := by
  unfold visB at h
  simp only [Bool.or_eq_true, decide_eq_true_eq] at h
  rcases h with (h | h) | h
  · exact .inl h
  · exact .inr (.inl h)
  · exact .inr (.inr h)
theorem loc_of' {sc : Scope} {x : Str} (h : locB sc x = true) : Loc sc x := by
  unfold locB at h
  simp only [Bool.or_eq_true, decide_eq_true_eq] at h
  exact h
/-- the context of a def's body -/
theorem ctx_def {qual : Str} {scope : Scope} {N : List Str} {f : Addr} {cd : Value} {A : Around} {outer : List Env} {s : Shared} {H : Hp} {E : XK} (W : Wd P w K mg base xcs sub gls k) (hcl : ∀ p ∈ cl, Av P w K mg base xcs (k + 1) p.1 p.2) (kn : scope.kind = .function) (nd : N.Nodup)
    (hr : Room (k + 1) (A.deeper (PyProof.Rows.envOfC qual scope s.heap.objs.size f cd))) : CtxS (cxOf (L2.CX P w) P w K mg base N qual scope f cd A outer s H E) scope (tabOf cl gls xcs sub) (gam cl gls) where
  sco := ⟨fun x h => vis_of h, fun x h => ⟨loc_of' h, .inl rfl⟩, fun x h => of_decide_eq_true (p := scope.names.lookup x = some .globalImplicit) h, fun x h => h⟩
  nd := nd
  calm := rfl
  hu := hr.units
  fns := fun i x h => by
    obtain ⟨⟨f, fd, ps, h1, h2, h3, h4⟩, db⟩ := hcl _ (spAt_ix h)
    exact ⟨⟨k + 1, f, fd, ps, h1, h2, hr, h3, h4⟩, db⟩
  gls := fun i x h => W.gls _ (glAt_ix h)
  blt := W.blt
  scE := rfl
  knd := kn
  own := passes_of rfl
  stk := rfl
  frm := rfl
  xcs := fun i x fs h => by
    obtain ⟨⟨C, fI, fd, ps, sp, h1, h2, h3, h4, h5, h6, h7, h8, h9⟩, db⟩ := W.xc (x, fs) (List.mem_of_getElem? h)
    exact ⟨⟨C, fI, fd, k, ps, sp, h1, h2, h3, h4, h5, h6, hr, h7, h8, h9⟩, db⟩
  sub := W.sub
theorem def_ok {x qual : Str} {st : Stmt} {f : Addr} {fd : FuncData} {N ps : List Str} {sp : USp} {body : Sms} (W : Wd P w K mg base xcs sub gls k) (hcl : ∀ p ∈ cl, Av P w K mg base xcs (k + 1) p.1 p.2) (F : Fun K x qual st f fd) (S : FnScope N ps (defScope st))
    (hc : chkSs N (defScope st) (tabOf cl gls xcs sub) false body (defBody st) = true) (hlen : ∀ us G Q E, sp us G Q E → us.length = ps.length)
    (hb : ∀ us G Q E, sp us G Q E → trSs (tabOf cl gls xcs sub) (gam cl gls) body (UD Q E) (startU N us) G) : FnOk P w K mg base (L2.CX P w) (k + 2) f fd ps (cSp K mg ⟨[], [], xcs⟩ sp) := by
  refine F.okX S (fun vs H Q E h => ?_) (fun cdv A outer s H vs Q E hr h => ?_)
  · obtain ⟨us, G, Q0, E0, r, hg, h, _⟩ := h
    rw [← r.length]
    exact hlen us G Q0 E0 h
  · obtain ⟨us, G, Q0, E0, r, hg, h, k1, k2⟩ := h
    have C := ctx_def (qual := qual) (scope := defScope st) (N := N) (f := f) (cd := cdv) (A := A) (outer := outer) (s := s) (H := H) (E := E) W hcl S.kind S.nd hr
    refine ⟨_, sSs body C _ hc, H, UD Q0 E0, startU N us, G, .inr rfl, ?_, start_rel r, hg, .refl, hb us G Q0 E0 h, ⟨?_, ?_, ?_, ?_⟩⟩
    · refine takes_ext (L2.takes_of (E := E) rfl rfl rfl rfl) fun cls d σ' H' e l wv => ?_
      obtain ⟨xn, s1, G1, hs1, hg1, xr, G0, le, w0⟩ := wv
      exact k2 xn G0 cls d H' w0 xr (hg1.le le) e
    · rintro s1 G1 σ1 H1 ⟨G0, le, q⟩ hs1 hg1 e1
      exact k1 .non G0 .non H1 q .non (hg1.le le) e1
    · rintro u G1 v H1 ⟨G0, le, q⟩ ru hg1 e1
      exact k1 u G0 v H1 q ru (hg1.le le) e1
    · intro _ _ _ _ z
      exact z.elim
    · intro _ _ _ _ z
      exact z.elim
theorem def_av {x : Str} {st : Stmt} {f : Addr} {fd : FuncData} {N ps : List Str} {sp : USp} {body : Sms} (W : Wd P w K mg base xcs sub gls k) (hcl : ∀ p ∈ cl, Av P w K mg base xcs (k + 1) p.1 p.2) (F : Fun K x x st f fd) (hm : mg x = some (.ref f)) (hb' : Binds K fd ps []) (db : (x == ("__debug__" : Str)) = false) (S : FnScope N ps (defScope st))
    (hc : chkSs N (defScope st) (tabOf cl gls xcs sub) false body (defBody st) = true) (hlen : ∀ us G Q E, sp us G Q E → us.length = ps.length)
    (hb : ∀ us G Q E, sp us G Q E → trSs (tabOf cl gls xcs sub) (gam cl gls) body (UD Q E) (startU N us) G) : Av P w K mg base xcs (k + 2) x sp :=
  ⟨⟨f, fd, ps, hm, F.kp, hb', def_ok W hcl F S hc hlen hb⟩, db⟩
end
/-! ### an exception's own __init__ -/
section
variable {P : Program} {w : World} {K : PySem.W.Frag} {mg : Str → Option Value} {base : Heap}
def init2 (p1 p2 p3 p4 q1 q2 q3 q4 : Pos) (f g x y : Str) : List Stmt := [.Assign [.Attribute (.Name "self" p1) f p2] (.Name x p3) p4, .Assign [.Attribute (.Name "self" q1) g q2] (.Name y q3) q4]
def init1 (p1 p2 p3 p4 : Pos) (f x : Str) : List Stmt := [.Assign [.Attribute (.Name "self" p1) f p2] (.Name x p3) p4]
def spI2 (C : Addr) (f g : Str) : Sp := fun vs H Q _ => ∃ a x y, vs = [.ref a, x, y] ∧ H a = some (exo a C none) ∧ ∀ d, H d = none → d ≠ a → Q .non (upd (upd H d (exd d [(g, y), (f, x)])) a (exo a C (some d)))
def spI1 (C : Addr) (f : Str) : Sp := fun vs H Q _ => ∃ a x, vs = [.ref a, x] ∧ H a = some (exo a C none) ∧ ∀ d, H d = none → d ≠ a → Q .non (upd (upd H d (exd d [(f, x)])) a (exo a C (some d)))
theorem two_upd {H : Hp} {a d : Addr} {x y z : HO} (h : d ≠ a) : upd (upd (upd H d x) a y) d z = upd (upd H d z) a y := by
  funext b
  by_cases h1 : b = d
  · subst h1; rw [upd_same, upd_ne h, upd_same]
  · by_cases h2 : b = a
    · subst h2; rw [upd_ne h1, upd_same, upd_same]
    · rw [upd_ne h1, upd_ne h2, upd_ne h1, upd_ne h2, upd_ne h1]
theorem init2_ok {qual x y f g : Str} {st : Stmt} {fI C : Addr} {fd : FuncData} {k : Nat} {p1 p2 p3 p4 q1 q2 q3 q4 : Pos} (F : Fun K "__init__" qual st fI fd) (S : FnScope ["self", x, y] ["self", x, y] (defScope st)) (hb : defBody st = init2 p1 p2 p3 p4 q1 q2 q3 q4 f g x y)
    (T : OexC K C) (nf : PySem.W.findIn K (.ref C) f = some none) (ng : PySem.W.findIn K (.ref C) g = some none) (v0 : (defScope st).names.lookup ("self" : Str) = some .local) (v1 : (defScope st).names.lookup x = some .local) (v2 : (defScope st).names.lookup y = some .local)
    (d1 : (x == ("__debug__" : Str)) = false) (d2 : (y == ("__debug__" : Str)) = false) (c1 : (x == ("__classdict__" : Str)) = false) (c2 : (y == ("__classdict__" : Str)) = false) : FnOk P w K mg base (L2.CX P w) (k + 1) fI fd ["self", x, y] (spI2 C f g) := by
  refine F.okX S (fun vs H Q E h => ?_) (fun cdv A outer s H vs Q E hr h => ⟨tSeq (tOst K f (tVar 0) (tVar 1)) (tOst K g (tVar 0) (tVar 2)), ?_, ?_⟩)
  · obtain ⟨a, u, v, rfl, _⟩ := h
    rfl
  · rw [hb]
    exact pss_cons (ps_ost (pe_var (i := 0) rfl (.inl v0) (by decide) (by decide)) (pe_var (i := 1) rfl (.inl v1) d1 c1)) (pss_one (ps_ost (pe_var (i := 0) rfl (.inl v0) (by decide) (by decide)) (pe_var (i := 2) rfl (.inl v2) d2 c2)))
  · obtain ⟨a, u, v, rfl, ha, kq⟩ := h
    refine ⟨u, rfl, .ref a, rfl, a, C, rfl, T, nf, .inl ⟨ha, fun dx hd hne => ⟨v, rfl, .ref a, rfl, a, C, rfl, T, ng, .inr ⟨dx, [(f, u)], upd_same, (upd_ne hne).trans upd_same, Nat.le_of_ble_eq_true rfl, ?_⟩⟩⟩⟩
    rw [two_upd hne]
    exact kq dx hd hne
theorem init1_ok {qual x f : Str} {st : Stmt} {fI C : Addr} {fd : FuncData} {k : Nat} {p1 p2 p3 p4 : Pos} (F : Fun K "__init__" qual st fI fd) (S : FnScope ["self", x] ["self", x] (defScope st)) (hb : defBody st = init1 p1 p2 p3 p4 f x)
    (T : OexC K C) (nf : PySem.W.findIn K (.ref C) f = some none) (v0 : (defScope st).names.lookup ("self" : Str) = some .local) (v1 : (defScope st).names.lookup x = some .local)
    (d1 : (x == ("__debug__" : Str)) = false) (c1 : (x == ("__classdict__" : Str)) = false) : FnOk P w K mg base (L2.CX P w) (k + 1) fI fd ["self", x] (spI1 C f) := by
  refine F.okX S (fun vs H Q E h => ?_) (fun cdv A outer s H vs Q E hr h => ⟨tOst K f (tVar 0) (tVar 1), ?_, ?_⟩)
  · obtain ⟨a, u, rfl, _⟩ := h
    rfl
  · rw [hb]
    exact pss_one (ps_ost (pe_var (i := 0) rfl (.inl v0) (by decide) (by decide)) (pe_var (i := 1) rfl (.inl v1) d1 c1))
  · obtain ⟨a, u, rfl, ha, kq⟩ := h
    exact ⟨u, rfl, .ref a, rfl, a, C, rfl, T, nf, .inl ⟨ha, fun dx hd hne => kq dx hd hne⟩⟩
theorem avx2 {cn qual x y f g : Str} {st : Stmt} {fI C : Addr} {fd : FuncData} {k : Nat} {p1 p2 p3 p4 q1 q2 q3 q4 : Pos} (hm : mg cn = some (.ref C)) (db : (cn == ("__debug__" : Str)) = false) (X : XcCls K C [g, f]) (T : OexC K C) (iC : PySem.W.findIn K (.ref C) "__init__" = some (some (.ref fI))) (tI : PySem.W.typeIn K (.ref fI) = some (.type "function"))
    (F : Fun K "__init__" qual st fI fd) (bd : Binds K fd ["self", x, y] []) (S : FnScope ["self", x, y] ["self", x, y] (defScope st)) (hb : defBody st = init2 p1 p2 p3 p4 q1 q2 q3 q4 f g x y)
    (v0 : (defScope st).names.lookup ("self" : Str) = some .local) (v1 : (defScope st).names.lookup x = some .local) (v2 : (defScope st).names.lookup y = some .local)
    (d1 : (x == ("__debug__" : Str)) = false) (d2 : (y == ("__debug__" : Str)) = false) (c1 : (x == ("__classdict__" : Str)) = false) (c2 : (y == ("__classdict__" : Str)) = false) : AvX P w K mg base (k + 1) cn [g, f] :=
  ⟨⟨C, fI, fd, ["self", x, y], spI2 C f g, hm, X, T, iC, tI, init2_ok F S hb T (X.noN f (by simp)) (X.noN g (by simp)) v0 v1 v2 d1 d2 c1 c2, bd, Nat.le_of_ble_eq_true rfl, fun a ws H Q hl ha hk => by
    match ws, hl with
    | [u, v], _ => exact ⟨a, u, v, rfl, ha, hk⟩⟩, db⟩
theorem avx1 {cn qual x f : Str} {st : Stmt} {fI C : Addr} {fd : FuncData} {k : Nat} {p1 p2 p3 p4 : Pos} (hm : mg cn = some (.ref C)) (db : (cn == ("__debug__" : Str)) = false) (X : XcCls K C [f]) (T : OexC K C) (iC : PySem.W.findIn K (.ref C) "__init__" = some (some (.ref fI))) (tI : PySem.W.typeIn K (.ref fI) = some (.type "function"))
    (F : Fun K "__init__" qual st fI fd) (bd : Binds K fd ["self", x] []) (S : FnScope ["self", x] ["self", x] (defScope st)) (hb : defBody st = init1 p1 p2 p3 p4 f x)
    (v0 : (defScope st).names.lookup ("self" : Str) = some .local) (v1 : (defScope st).names.lookup x = some .local)
    (d1 : (x == ("__debug__" : Str)) = false) (c1 : (x == ("__classdict__" : Str)) = false) : AvX P w K mg base (k + 1) cn [f] :=
  ⟨⟨C, fI, fd, ["self", x], spI1 C f, hm, X, T, iC, tI, init1_ok F S hb T (X.noN f (by simp)) v0 v1 d1 c1, bd, Nat.le_of_ble_eq_true rfl, fun a ws H Q hl ha hk => by
    match ws, hl with
    | [u], _ => exact ⟨a, u, rfl, ha, hk⟩⟩, db⟩
end
end UL
set_option Elab.async false
set_option linter.all false
set_option autoImplicit false
set_option maxRecDepth 100000
set_option maxHeartbeats 4000000
/-! UL16: the head's facts; the end of a law. -/
namespace UL
open PySem PySem.Spec L2
section
variable {P : Program} {w : World} {K : PySem.W.Frag} {mg : Str → Option Value} {base : Heap} {xcs : Xcs} {sub : Nat → Nat → Bool} {gls : List (Str × U)} {cl : List (Str × USp)} {k : Nat}
theorem funD_fun {x qual : Str} {st : Stmt} {f : Addr} {fd : FuncData} (F : FunD K x qual (defArgs st) (defBody st) (defScope st) [] [] f fd) : Fun K x qual st f fd := by
  obtain ⟨oc, od, dV, kV, doc, pm, an, cdv, ct, osl, rfl, lk, hcd, hD, hK⟩ := F.ex
  have e : dV = .none := by
    rcases hD with ⟨_, e⟩ | ⟨e, _⟩
    · exact e
    · exact absurd rfl e
  subst e
  exact ⟨⟨oc, od, kV, doc, pm, an, cdv, ct, osl, rfl, lk, hcd⟩, F.kp⟩
/-! ### an exception class by its facts -/
def oexB (K : PySem.W.Frag) (C : Addr) : Bool := match K.lookup C with
  | some ⟨.type "type", _, .cls cd, sl⟩ => (match cd.mro, sl.toList with
    | .ref C' :: bm, [_, _, _, _, some (.builtin n), _] => C' == C && n == "ValueError.__new__" && !cd.hasDel && cd.hasDict && PySem.HandSPX.refsVE bm
    | _, _ => false)
  | _ => false
theorem oex_cls {C : Addr} (q : oexB K C = true) : ∃ nm q N bs bm sn sub ab col dd k0 k1 k2 k3 k5, K.lookup C = some (excClassObj nm q C N bs bm true sn sub ab col dd k0 k1 k2 k3 k5 "ValueError.__new__") ∧ PySem.HandSPX.refsVE bm = true := by
  unfold oexB at q
  split at q
  · rename_i dd cd sl ho
    split at q
    · rename_i C' bm k0 k1 k2 k3 n k5 hm hs
      simp only [Bool.and_eq_true, beq_iff_eq, Bool.not_eq_true'] at q
      obtain ⟨⟨⟨⟨rfl, rfl⟩, hdel⟩, hdict⟩, hv⟩ := q
      obtain ⟨nm, bs, mro, ns, qn, hd, sn, sub, ab, col, del⟩ := cd
      dsimp only at hm hdel hdict
      subst hm hdel hdict
      have hsl : sl = #[k0, k1, k2, k3, some (.builtin "ValueError.__new__"), k5] := by
        obtain ⟨l⟩ := sl
        simp only at hs
        rw [hs]
      subst hsl
      exact ⟨nm, qn, ns, bs, bm, sn, sub, ab, col, dd, k0, k1, k2, k3, k5, ho, hv⟩
    · cases q
  · cases q
def xcB (K : PySem.W.Frag) (p : Str × List Str) : Bool :=
  oexB K (He.ga K p.1) && (He.eqO (PySem.W.findIn K (.ref (He.ga K p.1)) "__setattr__") (some (some (.builtin "object.__setattr__"))) && (He.eqO (PySem.W.findIn K (.ref (He.ga K p.1)) "__getattribute__") (some (some (.builtin "BaseException.__getattribute__"))) &&
    (He.eqO (PySem.W.findIn K (.ref (He.ga K p.1)) "__getattr__") (some none) && (decide (PySem.W.subIn K (.ref (He.ga K p.1)) (.type "BaseException") = some true) && (decide (PySem.W.typeIn K (.ref (He.ga K p.1)) = some (.type "type")) &&
      (PySem.W.keepIn K (.ref (He.ga K p.1)) && (PySem.W.hasDictIn K (He.ga K p.1) && (p.2.all (fun f => He.eqO (PySem.W.findIn K (.ref (He.ga K p.1)) f) (some none)) && (He.eqO (PySem.W.findIn K (.ref (He.ga K p.1)) "__init__") (some (some (.ref (He.ma K (He.ga K p.1) "__init__")))) &&
        decide (PySem.W.typeIn K (.ref (He.ma K (He.ga K p.1) "__init__")) = some (.type "function")))))))))))
structure XcF (K : PySem.W.Frag) (x : Str) (fs : List Str) : Prop where
  c : XcCls K (He.ga K x) fs
  o : OexC K (He.ga K x)
  i : PySem.W.findIn K (.ref (He.ga K x)) "__init__" = some (some (.ref (He.ma K (He.ga K x) "__init__")))
  t : PySem.W.typeIn K (.ref (He.ma K (He.ga K x) "__init__")) = some (.type "function")
theorem xc_of {x : Str} {fs : List Str} (h : xcB K (x, fs) = true) : XcF K x fs := by
  unfold xcB at h
  simp only [Bool.and_eq_true, decide_eq_true_eq] at h
  obtain ⟨h1, h2, h3, h4, h5, h6, h7, h8, h9, h10, h11⟩ := h
  exact ⟨⟨He.eqO_ok h3, He.eqO_ok h4, h5, h8, fun f hf => He.eqO_ok (List.all_eq_true.mp h9 f hf)⟩, ⟨oex_cls h1, He.eqO_ok h2, h5, h6, h7⟩, He.eqO_ok h10, h11⟩
end
/-! ### the hook -/
abbrev AlU : Type := He.AlD × Bool
def obsU (n : Nat) (fa : List He.Fa) (fn : List He.DefD) (ex : PySem.W.Frag → Bool) (g : Addr → Option Obj) : AlU := (He.obsDG n fa fn g, ex (He.frG g (He.asD g n)))
def hookU (n : Nat) (fa : List He.Fa) (fn : List He.DefD) (ex : PySem.W.Frag → Bool) : PySem.W.Hook where
  α := AlU
  obs := fun s => obsU n fa fn ex s.heap.get?
  val := fun _ => (He.valD fn, true)
  says := fun _ h => ∃ K : PySem.W.Frag, K.In h ∧ He.SaysD fa fn K ∧ ex K = true
  of := fun _ s e => ⟨_, He.frG_in, congrArg (fun z : AlU => z.1) e, congrArg (fun z : AlU => z.2) e⟩
  keeps := fun _ _ _ ⟨K, hK, c⟩ k => ⟨K, PySem.W.Frag.In.keeps hK k, c⟩
theorem obsU_eq {n : Nat} {fa : List He.Fa} {fn : List He.DefD} {ex : PySem.W.Frag → Bool} {g : Addr → Option Obj} {s : Shared} (h : ∀ a, g a = s.heap.get? a) : obsU n fa fn ex g = (hookU n fa fn ex).obs s := by
  have e : g = s.heap.get? := funext h
  rw [e] <;> rfl
/-! ### the law's end -/
theorem sp_law {K : PySem.W.Frag} {mg : Str → Option Value} {xcs : Xcs} {sp : USp} {H : Hp} {a : Addr} {ns : List Int} (hO : Only H) (hS : SqL K H a (ns.map V.int)) (h : sp [.rol (ns.map U.int)] (fun _ => none) (fun u _ => u = .bl true) (fun _ _ => False)) :
    cSp K mg ⟨[], [], xcs⟩ sp [.ref a] H (fun v _ => v = .bl true) (fun _ _ _ => False) := by
  have fz : Frz K H a (ns.map V.int) := by
    rcases hS with (h1 | h1) | h1
    · rcases hO a with e | ⟨o, xs, e⟩
      · rw [e] at h1; cases h1
      · rw [e] at h1; cases h1
    · exact .inl h1
    · exact .inr h1
  refine ⟨_, fun _ => none, _, _, .cons (.rol fz (RUs.of_ints ns)) .nil, (fun a o e => by cases e), h, (fun u G' v H' q r _ _ => ?_), (fun _ _ _ _ _ z => False.elim z)⟩
  subst q
  cases r
  rfl
end UL
set_option Elab.async false
set_option linter.all false
set_option autoImplicit false
set_option maxRecDepth 100000
set_option maxHeartbeats 4000000
/-! UL17: words for the proofs over the layer. -/
namespace UL
open PySem PySem.Spec L2
theorem line_ge : 16777216 ≤ sizeLine := by rw [sizeLine_eq]; exact Nat.le_refl _
theorem uC_s {u : U} {s : USt} {G : UH} {Q : UK} : uC u s G Q = Q u G := propext ⟨id, id⟩
theorem uVar_s {i : Nat} {s : USt} {G : UH} {Q : UK} : uVar i s G Q = (match getS s i with
  | some u => Q u G
  | none => False) := propext ⟨id, id⟩
theorem uBin_s {r : UOp} {ta tb : UT} {s : USt} {G : UH} {Q : UK} : uBin r ta tb s G Q = ta s G fun x G1 => tb s G1 fun y G2 => r x y G2 Q := propext ⟨id, id⟩
theorem uUn_s {r : U → UH → UK → Prop} {ta : UT} {s : USt} {G : UH} {Q : UK} : uUn r ta s G Q = ta s G fun x G1 => r x G1 Q := propext ⟨id, id⟩
theorem mulL {i j : Int} (h : -(2 ^ 64) < i) (h' : i < 2 ^ 64) : MulOk i j := .inl (.inl ⟨h, h'⟩)
theorem mulR {i j : Int} (h : -(2 ^ 64) < j) (h' : j < 2 ^ 64) : MulOk i j := .inl (.inr ⟨h, h'⟩)
theorem divS {i j : Int} (h : 0 < j) (h' : j < 1073741824) : DivOk i j := .inl ⟨h, h'⟩
def isI : U → Bool
  | .int _ => true
  | _ => false
def tyS (G : UH) (u : U) : Prop := (tyN G u).isSome = true
/-- what stays: all but what stands at p and g -/
def Fr (p g : Addr) (G G' : UH) : Prop := ∀ a o, a ≠ p → a ≠ g → G a = some o → G' a = some o
theorem Fr.refl (p g : Addr) (G : UH) : Fr p g G G := fun _ _ _ _ h => h
theorem Fr.trans {p g : Addr} {G1 G2 G3 : UH} (a : Fr p g G1 G2) (b : Fr p g G2 G3) : Fr p g G1 G3 := fun c o h1 h2 h => b c o h1 h2 (a c o h1 h2 h)
theorem Fr.of_le {p g : Addr} {G G' : UH} (h : Le G G') : Fr p g G G' := fun a o _ _ e => h a o e
theorem Le.up {G G' : UH} {p : Addr} {o : UO} (h : Le G G') : Le (up G p o) (up G' p o) := fun a q e => by
  by_cases z : a = p
  · subst z; rw [up_same] at e ⊢; exact e
  · rw [up_ne z] at e ⊢; exact h a q e
/-- a comprehension whose turns leave the heap as it is -/
theorem lcU_pure {ds : Deps} {p : Addr} {g : U → (USt → UH → Prop) → UH → Prop} {tt : USt → UH → (Bool → UH → Prop) → Prop} {te : USt → UH → UK → Prop} {Q : UK} {G0 : UH} (c : U → Bool) (f : U → U) (hd : ∀ acc, depsOk (up G0 p (.lst acc)) ds) :
    ∀ (ys acc : List U), acc.length + ys.length ≤ sizeLine →
      (∀ y ∈ ys, ∀ (acc : List U) (K1 : UK) (K0 : UH → Prop), (c y = true → K1 (f y) (up G0 p (.lst acc))) → (c y = false → K0 (up G0 p (.lst acc))) → g y (fun s1 G1 => tt s1 G1 fun b G2 => if b = true then te s1 G2 K1 else K0 G2) (up G0 p (.lst acc))) →
      Q (.ref p) (up G0 p (.lst (acc ++ (ys.filter c).map f))) → lcU ds p g tt te Q ys acc (up G0 p (.lst acc))
  | [], acc, _, _, q => ⟨hd acc, up_same, by simpa using q⟩
  | y :: ys, acc, hl, ht, q => by
    refine ⟨hd acc, up_same, ht y List.mem_cons_self acc _ _ (fun hc => ⟨up_same, by simp only [List.length_cons] at hl; omega, _, .refl _, ?_⟩) (fun hc => ⟨_, .refl _, ?_⟩)⟩
    · rw [up_up]
      refine lcU_pure c f hd ys (acc ++ [f y]) (by simp only [List.length_cons, List.length_append, List.length_nil] at hl ⊢; omega) (fun z hz => ht z (List.mem_cons_of_mem _ hz)) ?_
      rw [List.filter_cons, if_pos hc] at q
      simpa using q
    · refine lcU_pure c f hd ys acc (by simp only [List.length_cons] at hl; omega) (fun z hz => ht z (List.mem_cons_of_mem _ hz)) ?_
      rw [List.filter_cons, if_neg (by rw [hc]; exact Bool.false_ne_true)] at q
      exact q
theorem lcU_map {ds : Deps} {p : Addr} {g : U → (USt → UH → Prop) → UH → Prop} {tt : USt → UH → (Bool → UH → Prop) → Prop} {te : USt → UH → UK → Prop} {Q : UK} {G0 : UH} (f : U → U) (hd : ∀ acc, depsOk (up G0 p (.lst acc)) ds)
    (ys acc : List U) (hl : acc.length + ys.length ≤ sizeLine)
      (ht : ∀ y ∈ ys, ∀ (acc : List U) (K1 : UK) (K0 : UH → Prop), K1 (f y) (up G0 p (.lst acc)) → g y (fun s1 G1 => tt s1 G1 fun b G2 => if b = true then te s1 G2 K1 else K0 G2) (up G0 p (.lst acc)))
      (q : Q (.ref p) (up G0 p (.lst (acc ++ ys.map f)))) : lcU ds p g tt te Q ys acc (up G0 p (.lst acc)) := by
  refine lcU_pure (fun _ => true) f hd ys acc hl (fun y hy acc K1 K0 k1 _ => ht y hy acc K1 K0 (k1 rfl)) ?_
  rw [show ys.filter (fun _ => true) = ys from List.filter_eq_self.mpr fun _ _ => rfl]
  exact q
theorem lcK_pure {ds : Deps} {p : Addr} {g : U → (USt → UH → Prop) → UH → Prop} {tt : USt → UH → (Bool → UH → Prop) → Prop} {te : USt → UH → UK → Prop} {K : List U → UH → Prop} {G0 : UH} (c : U → Bool) (f : U → U) (hd : ∀ acc, depsOk (up G0 p (.lst acc)) ds) :
    ∀ (ys acc : List U), acc.length + ys.length ≤ sizeLine →
      (∀ y ∈ ys, ∀ (acc : List U) (K1 : UK) (K0 : UH → Prop), (c y = true → K1 (f y) (up G0 p (.lst acc))) → (c y = false → K0 (up G0 p (.lst acc))) → g y (fun s1 G1 => tt s1 G1 fun b G2 => if b = true then te s1 G2 K1 else K0 G2) (up G0 p (.lst acc))) →
      K (acc ++ (ys.filter c).map f) (up G0 p (.lst (acc ++ (ys.filter c).map f))) → lcK ds p g tt te K ys acc (up G0 p (.lst acc))
  | [], acc, _, _, q => ⟨hd acc, up_same, by simpa using q⟩
  | y :: ys, acc, hl, ht, q => by
    refine ⟨hd acc, up_same, ht y List.mem_cons_self acc _ _ (fun hc => ⟨up_same, by simp only [List.length_cons] at hl; omega, _, .refl _, ?_⟩) (fun hc => ⟨_, .refl _, ?_⟩)⟩
    · rw [up_up]
      refine lcK_pure c f hd ys (acc ++ [f y]) (by simp only [List.length_cons, List.length_append, List.length_nil] at hl ⊢; omega) (fun z hz => ht z (List.mem_cons_of_mem _ hz)) ?_
      rw [List.filter_cons, if_pos hc] at q
      simpa using q
    · refine lcK_pure c f hd ys acc (by simp only [List.length_cons] at hl; omega) (fun z hz => ht z (List.mem_cons_of_mem _ hz)) ?_
      rw [List.filter_cons, if_neg (by rw [hc]; exact Bool.false_ne_true)] at q
      exact q
theorem lc2U_pure {ds : Deps} {p : Addr} {g : U → (USt → UH → Prop) → UH → Prop} {tt : USt → UH → (Bool → UH → Prop) → Prop} {inner : USt → UH → List U → (List U → UH → Prop) → Prop} {Q : UK} {G0 : UH} (f : U → List U) (hd : ∀ acc, depsOk (up G0 p (.lst acc)) ds) :
    ∀ (ys acc : List U), acc.length + (ys.flatMap f).length ≤ sizeLine →
      (∀ y ∈ ys, ∀ (acc : List U) (K : List U → UH → Prop) (K0 : UH → Prop), acc.length + (f y).length ≤ sizeLine → K (acc ++ f y) (up G0 p (.lst (acc ++ f y))) → g y (fun s1 G1 => tt s1 G1 fun b G2 => if b = true then inner s1 G2 acc K else K0 G2) (up G0 p (.lst acc))) →
      Q (.ref p) (up G0 p (.lst (acc ++ ys.flatMap f))) → lc2U ds p g tt inner Q ys acc (up G0 p (.lst acc))
  | [], acc, _, _, q => ⟨hd acc, up_same, by simpa using q⟩
  | y :: ys, acc, hl, ht, q => by
    rw [List.flatMap_cons, List.length_append] at hl
    refine ⟨hd acc, up_same, ht y List.mem_cons_self acc _ _ (by omega) ⟨_, .refl _, ?_⟩⟩
    refine lc2U_pure f hd ys (acc ++ f y) (by rw [List.length_append]; omega) (fun z hz => ht z (List.mem_cons_of_mem _ hz)) ?_
    rw [List.flatMap_cons] at q
    rw [List.append_assoc]
    exact q
theorem depsNil {G : UH} : depsOk G [] := trivial
theorem deps_up {G0 : UH} {p : Addr} {o : UO} : ∀ {ds : Deps}, depsOk G0 ds → G0 p = none → depsOk (up G0 p o) ds
  | [], _, _ => trivial
  | d :: ds, h, hp => ⟨by rw [up_ne (un_of h.1 hp)]; exact h.1, deps_up h.2 hp⟩
theorem deps_le {G G' : UH} (l : Le G G') : ∀ {ds : Deps}, depsOk G ds → depsOk G' ds
  | [], _ => trivial
  | d :: ds, h => ⟨l _ _ h.1, deps_le l h.2⟩
theorem gam_fn {cl : List (Str × USp)} {gls : List (Str × U)} : (gam cl gls).fn = spAt cl := rfl
theorem gam_gl {cl : List (Str × USp)} {gls : List (Str × U)} : (gam cl gls).gl = glAt gls := rfl
theorem tab_xcs {cl : List (Str × USp)} {gls : List (Str × U)} {xcs : Xcs} {sub : Nat → Nat → Bool} : (tabOf cl gls xcs sub).toTab.xcs = xcs := rfl
theorem tab_sub {cl : List (Str × USp)} {gls : List (Str × U)} {xcs : Xcs} {sub : Nat → Nat → Bool} : (tabOf cl gls xcs sub).sub = sub := rfl
theorem UD_nx {Q : UK} {E : UXn → UH → Prop} : (UD Q E).nx = fun _ G => fin (Q .non) G := rfl
theorem UD_rt {Q : UK} {E : UXn → UH → Prop} : (UD Q E).rt = fun u G => fin (Q u) G := rfl
theorem UD_bk {Q : UK} {E : UXn → UH → Prop} : (UD Q E).bk = fun _ _ => False := rfl
theorem UD_ct {Q : UK} {E : UXn → UH → Prop} : (UD Q E).ct = fun _ _ => False := rfl
theorem UD_ex {Q : UK} {E : UXn → UH → Prop} : (UD Q E).ex = fun xn _ G => fin (E xn) G := rfl
/-! ### numbers in a row -/
def rangeI (lo c : Int) : Nat → List Int
  | 0 => []
  | n + 1 => lo :: rangeI (lo + c) c n
theorem rangeU_map : ∀ (n : Nat) (lo c : Int), rangeU lo c n = (rangeI lo c n).map U.int
  | 0, _, _ => rfl
  | n + 1, lo, c => by simp [rangeU, rangeI, rangeU_map n]
theorem rangeI_len : ∀ (n : Nat) (lo c : Int), (rangeI lo c n).length = n
  | 0, _, _ => rfl
  | n + 1, lo, c => by simp [rangeI, rangeI_len n]
theorem rangeI_get : ∀ (n : Nat) (lo c : Int) (i : Nat), i < n → (rangeI lo c n)[i]? = some (lo + i * c)
  | 0, _, _, _, h => by omega
  | n + 1, lo, c, 0, _ => by simp [rangeI]
  | n + 1, lo, c, i + 1, h => by
    simp only [rangeI, List.getElem?_cons_succ]
    rw [rangeI_get n (lo + c) c i (by omega)]
    have : ((i + 1 : Nat) : Int) * c = (i : Int) * c + c := by rw [Int.natCast_add, Int.add_mul]; simp
    congr 1
    omega
theorem rangeI_mem {n : Nat} {lo c j : Int} (h : j ∈ rangeI lo c n) : ∃ i : Nat, i < n ∧ j = lo + i * c := by
  obtain ⟨i, hi, e⟩ := List.mem_iff_getElem.mp h
  rw [rangeI_len] at hi
  have := rangeI_get n lo c i hi
  rw [List.getElem?_eq_getElem (by rw [rangeI_len]; exact hi), Option.some.injEq] at this
  exact ⟨i, hi, by rw [← e, this]⟩
theorem mem_rangeI {n i : Nat} {lo c : Int} (h : i < n) : lo + i * c ∈ rangeI lo c n := List.mem_of_getElem? (rangeI_get n lo c i h)
theorem rlen_lt {i : Nat} {lo hi c : Int} (hc : 0 < c) (h : i < rlen lo hi c) : lo + i * c < hi := by
  unfold rlen at h
  have h1 : ((i : Int) + 1) ≤ (hi - lo + c - 1) / c := by omega
  have h2 := (Int.le_ediv_iff_mul_le hc).mp h1
  rw [Int.add_mul, Int.one_mul] at h2
  omega
theorem lt_rlen {i : Nat} {lo hi c : Int} (hc : 0 < c) (h : lo + i * c < hi) : i < rlen lo hi c := by
  unfold rlen
  have h1 : ((i : Int) + 1) ≤ (hi - lo + c - 1) / c := (Int.le_ediv_iff_mul_le hc).mpr (by rw [Int.add_mul, Int.one_mul]; omega)
  omega
theorem rlen_one {lo hi : Int} : rlen lo hi 1 = (hi - lo).toNat := by unfold rlen; rw [Int.ediv_one]; congr 1; omega
theorem atI_int {ns : List Int} {i : Int} (h : 0 ≤ i) (h2 : i < ns.length) : atI (ns.map U.int) i = some (.int (ns.getD i.toNat 0)) := by
  unfold atI ixN
  rw [List.length_map, if_pos h, if_pos h2]
  show (ns.map U.int)[i.toNat]? = _
  rw [List.getElem?_map, List.getElem?_eq_getElem (by omega)]
  simp [List.getD, List.getElem?_eq_getElem (show i.toNat < ns.length by omega)]
theorem atI_zero {x : U} {xs : List U} : atI (x :: xs) 0 = some x := by
  unfold atI ixN
  rw [if_pos (by decide), if_pos (by simp only [List.length_cons]; omega)]
  rfl
theorem atI_one {x y : U} {xs : List U} : atI (x :: y :: xs) 1 = some y := by
  unfold atI ixN
  rw [if_pos (by decide), if_pos (by simp only [List.length_cons]; omega)]
  rfl
theorem ixN_zero {n : Nat} : ixN (n + 1) 0 = some 0 := by
  unfold ixN
  rw [if_pos (by decide), if_pos (by omega)]
  rfl
theorem ixN_20 : ixN 2 0 = some 0 := rfl
/-- a purse at p: a number, the list at g -/
def Pur (G : UH) (p g : Addr) : Prop := p ≠ g ∧ ∃ (sd : Int) (gr : List Int), G p = some (.lst [.int sd, .ref g]) ∧ G g = some (.lst (gr.map U.int))
theorem Pur.le {G G' : UH} {p g : Addr} (h : Pur G p g) (l : Le G G') : Pur G' p g := by
  obtain ⟨n, sd, gr, h1, h2⟩ := h
  exact ⟨n, sd, gr, l _ _ h1, l _ _ h2⟩
/-- a pick: any number below many; the purse goes on -/
def sp_pick : USp := fun us G Q _ => ∃ p g many, us = [.ref p, .int many] ∧ Pur G p g ∧ 0 < many ∧ many < 1073741824 ∧ ∀ r G', 0 ≤ r → r < many → Pur G' p g → Fr p g G G' → Q (.int r) G'
/-- is a pick this number? -/
theorem if_pick {Γ : Gam} {W : UW} {f i : Nat} {n c : Int} {s : USt} {G : UH} {K : Bool → UH → Prop} {p g : Addr} (hf : Γ.fn f = sp_pick) (hs : getS s i = some (.ref p)) (hP : Pur G p g) (hn : 0 < n) (hn2 : n < 1073741824)
    (h : ∀ r G', 0 ≤ r → r < n → Pur G' p g → Fr p g G G' → K (decide (r = c)) G') : trT Γ W (.cmp .Eq (.call f (.cons (.var i) (.cons (.int n) .nil))) (.int c)) s G K := by
  show uVar i s G fun u G1 => Γ.fn f [u, .int n] G1 _ _
  unfold uVar
  rw [hs, hf]
  exact ⟨p, g, n, rfl, hP, hn, hn2, fun r G' a b hP' f' => by
    show K (false ^^ decide (r = c)) G'
    rw [Bool.false_xor]
    exact h r G' a b hP' f'⟩
theorem Fr.up1 {p g : Addr} {G : UH} {o : UO} : Fr p g G (up G p o) := fun a o' h1 _ e => by rw [up_ne h1]; exact e
theorem Fr.up2 {p g : Addr} {G : UH} {o : UO} : Fr p g G (up G g o) := fun a o' _ h2 e => by rw [up_ne h2]; exact e
theorem atI_nat {us : List U} {i : Int} {u : U} (h : 0 ≤ i) (h2 : us[i.toNat]? = some u) : atI us i = some u := by
  have hl : i.toNat < us.length := (List.getElem?_eq_some_iff.mp h2).1
  unfold atI ixN
  rw [if_pos h, if_pos (by omega)]
  exact h2
theorem ixN_nat {n : Nat} {i : Int} (h : 0 ≤ i) (h2 : i < n) : ixN n i = some i.toNat := by unfold ixN; rw [if_pos h, if_pos h2]
/-! ### isinstance -/
def kI : U → Bool
  | .int _ => true
  | .bl _ => true
  | _ => false
def kB : U → Bool
  | .bl _ => true
  | _ => false
def kT : U → Bool
  | .tup _ => true
  | _ => false
def kS : U → Bool
  | .str _ => true
  | _ => false
theorem isi_of {f : U → Bool} {T : String} (hT : T ∈ tyNames) (h : ∀ (G : UH) (u : U) (t : String), tyN G u = some t → isSub t T = f u) {G : UH} {u : U} {Q : UK} (ht : tyS G u) (q : Q (.bl (f u)) G) : uIsi [u, .ty T] G Q := by
  unfold tyS at ht
  unfold uIsi
  cases e : tyN G u with
  | none => rw [e] at ht; cases ht
  | some t =>
    simp only [e]
    exact ⟨hT, by rw [h G u t e]; exact q⟩
theorem ref_ty {G : UH} {a : Addr} {t : String} (h : tyN G (.ref a) = some t) : t = "list" ∨ t = "dict" := by
  unfold tyN at h
  dsimp only at h
  split at h
  · exact .inl (Option.some.inj h).symm
  · exact .inr (Option.some.inj h).symm
  · cases h
theorem isi_int {G : UH} {u : U} {Q : UK} (ht : tyS G u) (q : Q (.bl (kI u)) G) : uIsi [u, .ty "int"] G Q := by
  refine isi_of (by decide) (fun G u t e => ?_) ht q
  cases u with
  | ref a => rcases ref_ty e with rfl | rfl <;> rfl
  | ty n => cases e
  | _ => cases e; rfl
theorem isi_bool {G : UH} {u : U} {Q : UK} (ht : tyS G u) (q : Q (.bl (kB u)) G) : uIsi [u, .ty "bool"] G Q := by
  refine isi_of (by decide) (fun G u t e => ?_) ht q
  cases u with
  | ref a => rcases ref_ty e with rfl | rfl <;> rfl
  | ty n => cases e
  | _ => cases e; rfl
theorem isi_tuple {G : UH} {u : U} {Q : UK} (ht : tyS G u) (q : Q (.bl (kT u)) G) : uIsi [u, .ty "tuple"] G Q := by
  refine isi_of (by decide) (fun G u t e => ?_) ht q
  cases u with
  | ref a => rcases ref_ty e with rfl | rfl <;> rfl
  | ty n => cases e
  | _ => cases e; rfl
theorem isi_str {G : UH} {u : U} {Q : UK} (ht : tyS G u) (q : Q (.bl (kS u)) G) : uIsi [u, .ty "str"] G Q := by
  refine isi_of (by decide) (fun G u t e => ?_) ht q
  cases u with
  | ref a => rcases ref_ty e with rfl | rfl <;> rfl
  | ty n => cases e
  | _ => cases e; rfl
theorem tyS_le {G G' : UH} (l : Le G G') {u : U} (h : tyS G u) : tyS G' u := by
  unfold tyS at *
  cases u with
  | ref a =>
    unfold tyN at h ⊢
    dsimp only at h ⊢
    cases e : G a with
    | none => rw [e] at h; cases h
    | some o => rw [e] at h; rw [l a o e]; exact h
  | ty n => cases h
  | _ => rfl
end UL
set_option Elab.async false
set_option linter.all false
set_option autoImplicit false
set_option maxRecDepth 100000
set_option maxHeartbeats 4000000
/-! UL18: rows of whole numbers that are compared. -/
namespace UL
open PySem PySem.Spec L2
theorem toDs_int : ∀ ns : List Int, toDs (ns.map U.int) = some (ns.map PyData.int)
  | [] => rfl
  | n :: ns => by simp [toDs, toD, toDs_int ns]
theorem eqv_ints : ∀ ns ms : List Int, PyData.eqvAll (ns.map PyData.int) (ms.map PyData.int) = decide (ns = ms)
  | [], [] => by simp [PyData.eqvAll]
  | [], m :: ms => by simp [PyData.eqvAll]
  | n :: ns, [] => by simp [PyData.eqvAll]
  | n :: ns, m :: ms => by
    rw [List.map_cons, List.map_cons]
    unfold PyData.eqvAll
    rw [eqv_ints ns ms]
    by_cases h1 : n = m
    · by_cases h2 : ns = ms
      · simp [PyData.eqv, h1, h2]
      · simp [PyData.eqv, h1, h2]
    · simp [PyData.eqv, h1]
theorem shaped_tup (ns : List Int) : SeqAt.shaped (.tuple (ns.map PyData.int)) = true := by
  have h : ∀ ns : List Int, PyData.canLayAll0 (ns.map PyData.int) = true ∧ PyData.depthAll (ns.map PyData.int) ≤ 1 := by
    intro ns
    induction ns with
    | nil => exact ⟨rfl, by decide⟩
    | cons n ns ih => exact ⟨by simpa [PyData.canLayAll0, PyData.canLay0] using ih.1, by simpa [PyData.depthAll, PyData.depth] using ih.2⟩
  unfold SeqAt.shaped
  obtain ⟨h1, h2⟩ := h ns
  simp only [PyData.canLay0, PyData.depth, h1, Bool.true_and, decide_eq_true_eq]
  exact decide_eq_true (Nat.le_trans (Nat.succ_le_succ h2) (show 2 ≤ 64 by decide))
theorem shaped_lst (ns : List Int) : SeqAt.shaped (.list (ns.map PyData.int)) = true := shaped_tup ns
/-- a row of numbers is compared with a row of numbers -/
theorem eq_tups {neg : Bool} {ns ms : List Int} {G : UH} {Q : UK} (h : Q (.bl (neg ^^ decide (ns = ms))) G) : uEqF neg (.tup (ns.map U.int)) (.tup (ms.map U.int)) G Q := by
  show (match dOf G (.tup (ns.map U.int)), dOf G (.tup (ms.map U.int)) with
    | some d, some e => SeqAt.shaped d = true ∧ SeqAt.shaped e = true ∧ Q (.bl (neg ^^ PyData.eqv d e)) G
    | _, _ => False)
  have h1 : ∀ ks : List Int, dOf G (.tup (ks.map U.int)) = some (.tuple (ks.map PyData.int)) := fun ks => by
    show toD (.tup (ks.map U.int)) = _
    unfold toD
    rw [toDs_int]
    rfl
  rw [h1, h1]
  exact ⟨shaped_tup _, shaped_tup _, by rw [show PyData.eqv (.tuple (ns.map PyData.int)) (.tuple (ms.map PyData.int)) = PyData.eqvAll (ns.map PyData.int) (ms.map PyData.int) from by simp [PyData.eqv], eqv_ints]; exact h⟩
theorem eq_refs {neg : Bool} {a b : Addr} {ns ms : List Int} {G : UH} {Q : UK} (ha : G a = some (.lst (ns.map U.int))) (hb : G b = some (.lst (ms.map U.int))) (h : Q (.bl (neg ^^ decide (ns = ms))) G) : uEqF neg (.ref a) (.ref b) G Q := by
  show (match dOf G (.ref a), dOf G (.ref b) with
    | some d, some e => SeqAt.shaped d = true ∧ SeqAt.shaped e = true ∧ Q (.bl (neg ^^ PyData.eqv d e)) G
    | _, _ => False)
  have h1 : ∀ (c : Addr) (ks : List Int), G c = some (.lst (ks.map U.int)) → dOf G (.ref c) = some (.list (ks.map PyData.int)) := fun c ks e => by
    unfold dOf
    simp only [e, toDs_int, Option.map_some]
  rw [h1 a ns ha, h1 b ms hb]
  exact ⟨shaped_lst _, shaped_lst _, by rw [show PyData.eqv (.list (ns.map PyData.int)) (.list (ms.map PyData.int)) = PyData.eqvAll (ns.map PyData.int) (ms.map PyData.int) from by simp [PyData.eqv], eqv_ints]; exact h⟩
theorem dOf_tup {G : UH} (ks : List Int) : dOf G (.tup (ks.map U.int)) = some (.tuple (ks.map PyData.int)) := by
  show toD (.tup (ks.map U.int)) = _
  unfold toD
  rw [toDs_int]
  rfl
theorem dOf_lst {G : UH} {c : Addr} {ks : List Int} (e : G c = some (.lst (ks.map U.int))) : dOf G (.ref c) = some (.list (ks.map PyData.int)) := by
  unfold dOf
  simp only [e, toDs_int, Option.map_some]
theorem eqv_tup (ns ms : List Int) : PyData.eqv (.tuple (ns.map PyData.int)) (.tuple (ms.map PyData.int)) = decide (ns = ms) := by
  rw [← eqv_ints]
  simp [PyData.eqv]
theorem eqv_lst (ns ms : List Int) : PyData.eqv (.list (ns.map PyData.int)) (.list (ms.map PyData.int)) = decide (ns = ms) := by
  rw [← eqv_ints]
  simp [PyData.eqv]
/-- a comprehension whose turns change the heap elsewhere: what each item keeps -/
theorem lcU_acc {p : Addr} {g : U → (USt → UH → Prop) → UH → Prop} {tt : USt → UH → (Bool → UH → Prop) → Prop} {te : USt → UH → UK → Prop} {Q : UK} (I : UH → Prop) (P : U → Prop) (hI : ∀ G acc, I G → I (up G p (.lst acc))) (n : Nat) (hn : n ≤ sizeLine)
    (q : ∀ G acc, I G → G p = some (.lst acc) → (∀ a ∈ acc, P a) → acc.length = n → Q (.ref p) G) :
    ∀ (ys acc : List U) (G : UH), acc.length + ys.length = n → I G → G p = some (.lst acc) → (∀ a ∈ acc, P a) →
      (∀ y ∈ ys, ∀ (acc : List U) (G : UH) (K1 : UK) (K0 : UH → Prop), I G → G p = some (.lst acc) → (∀ u G', P u → I G' → G' p = some (.lst acc) → K1 u G') → g y (fun s1 G1 => tt s1 G1 fun b G2 => if b = true then te s1 G2 K1 else K0 G2) G) →
      lcU [] p g tt te Q ys acc G
  | [], acc, G, hl, hi, hp, ha, _ => ⟨trivial, hp, q G acc hi hp ha (by simpa using hl)⟩
  | y :: ys, acc, G, hl, hi, hp, ha, st => by
    refine ⟨trivial, hp, st y List.mem_cons_self acc G _ _ hi hp fun u G' hu hi' hp' => ⟨hp', by simp only [List.length_cons] at hl; omega, _, .refl _, ?_⟩⟩
    refine lcU_acc I P hI n hn q ys (acc ++ [u]) _ (by simp only [List.length_cons, List.length_append, List.length_nil] at hl ⊢; omega) (hI _ _ hi') up_same (fun a h => ?_) fun y hy => st y (List.mem_cons_of_mem _ hy)
    rw [List.mem_append] at h
    rcases h with h | h
    · exact ha a h
    · rw [List.mem_singleton.mp h]
      exact hu
theorem Pur.upf {G : UH} {p g a : Addr} {o : UO} (h : Pur G p g) (ha : G a = none) : Pur (up G a o) p g := h.le (.new ha)
theorem Pur.upn {G : UH} {p g a : Addr} {o : UO} (h : Pur G p g) (h1 : p ≠ a) (h2 : g ≠ a) : Pur (up G a o) p g := by
  obtain ⟨n, sd, gr, e1, e2⟩ := h
  exact ⟨n, sd, gr, by rw [up_ne h1]; exact e1, by rw [up_ne h2]; exact e2⟩
theorem Pur.ne {G : UH} {p g a : Addr} (h : Pur G p g) (ha : G a = none) : p ≠ a ∧ g ≠ a := by
  obtain ⟨n, sd, gr, e1, e2⟩ := h
  exact ⟨fun z => (by subst z; rw [ha] at e1; cases e1), fun z => (by subst z; rw [ha] at e2; cases e2)⟩
theorem intsOf_int : ∀ ns : List Int, intsOf (ns.map U.int) = some ns
  | [] => rfl
  | n :: ns => by rw [List.map_cons]; unfold intsOf; rw [intsOf_int ns]; rfl
theorem sorted_of {G : UH} {a : Addr} {ns : List Int} {Q : UK} (h : G a = some (.lst (ns.map U.int))) (q : ∀ ns' : List Int, ns'.Perm ns → ns'.Pairwise (· ≤ ·) → ∀ p, G p = none → Q (.ref p) (up G p (.lst (ns'.map U.int)))) : uSorted [.ref a] G Q := by
  unfold uSorted uIntL
  simp only [h, intsOf_int]
  exact q
/-- three in order -/
theorem sort3 {a x b : Int} (hab : a ≤ b) {l : List Int} (hp : l.Perm [a, x, b]) (hs : l.Pairwise (· ≤ ·)) : ∃ u v, l = [u, max a (min b x), v] := by
  have go : ∀ m : List Int, m.Perm [a, x, b] → m.Pairwise (· ≤ ·) → l = m := fun m h1 h2 => List.Perm.eq_of_pairwise (fun _ _ _ _ h h' => Int.le_antisymm h h') hs h2 (hp.trans h1.symm)
  by_cases c : x < a
  · refine ⟨x, b, ?_⟩
    rw [show max a (min b x) = a by omega]
    exact go _ (List.Perm.swap a x [b]) (by simp; omega)
  · by_cases c2 : b < x
    · refine ⟨a, x, ?_⟩
      rw [show max a (min b x) = b by omega]
      exact go _ (List.Perm.cons a (List.Perm.swap x b [])) (by simp; omega)
    · refine ⟨a, b, ?_⟩
      rw [show max a (min b x) = x by omega]
      exact go _ (List.Perm.refl _) (by simp; omega)
theorem cut_drop {us : List U} {i : Int} (h : 0 ≤ i) : cutU us (some i) none = us.drop i.toNat := by
  unfold cutU HT.sIx
  simp only
  rw [if_neg (by omega)]
  by_cases c : i.toNat ≤ us.length
  · rw [Nat.min_eq_left c]
    exact List.take_of_length_le (by rw [List.length_drop]; exact Nat.le_refl _)
  · rw [Nat.min_eq_right (by omega), List.drop_length, List.take_nil, List.drop_of_length_le (by omega)]
end UL
set_option Elab.async false
set_option linter.all false
set_option autoImplicit false
set_option maxRecDepth 100000
set_option maxHeartbeats 4000000
/-! UL19: the end. -/
namespace UL
open PySem PySem.Spec L2
theorem fn_cx {P : Program} {w : World} {K : PySem.W.Frag} {mg : Str → Option Value} {base : Heap} {C1 C2 : CXT} {k : Nat} {f : Addr} {fd : FuncData} {ps : List Str} {sp : Sp} (F : FnOk P w K mg base C1 k f fd ps sp) (h : ∀ o H s E e s', C1 o H s E e s' → C2 o H s E e s') : FnOk P w K mg base C2 k f fd ps sp :=
  ⟨F.len, fun A outer s H args us vs Q E hr he hb hv hs => codeAny_mono (F.run A outer s H args us vs Q E hr he hb hv hs) fun r s' hq => by
    cases r with
    | ok x => cases x <;> exact hq
    | error e => exact h _ _ _ _ _ _ hq⟩
def CXA (P : Program) : CXT := fun o H s E e s' => ∃ w, L2.CX P w o H s E e s'
theorem cxa_end {P : Program} (H : Hp) (s : Shared) (e : Value) (s' : Shared) (h : CXA P [] H s (fun _ _ _ => False) e s') : False := by
  obtain ⟨w, a, B, H', cls, d, _, _, _, _, _, _, _, hE⟩ := h
  exact hE
theorem rep_flat (n : Nat) (u : U) : (List.replicate n [u]).flatten = List.replicate n u := by
  induction n with
  | zero => rfl
  | succ n ih => simp [List.replicate_succ, ih]
theorem rangeI_last : ∀ (n : Nat) (lo c : Int), rangeI lo c (n + 1) = rangeI lo c n ++ [lo + n * c]
  | 0, lo, c => by simp [rangeI]
  | n + 1, lo, c => by
    have ih := rangeI_last n (lo + c) c
    rw [show rangeI lo c (n + 1 + 1) = lo :: rangeI (lo + c) c (n + 1) from rfl, ih]
    have e : lo + c + (n : Int) * c = lo + ((n + 1 : Nat) : Int) * c := by
      rw [Int.natCast_add, Int.add_mul]; omega
    rw [e]
    rfl
theorem fm_range {α : Type} {f : Nat → Option α} : ∀ n, (∀ m, m < n → ∃ x, f m = some x) → ((List.range n).filterMap f).length = n ∧ ∀ i, ((List.range n).filterMap f)[i]? = if i < n then f i else none
  | 0, _ => ⟨rfl, fun i => by simp⟩
  | n + 1, h => by
    obtain ⟨h1, h2⟩ := fm_range n (fun m hm => h m (by omega))
    obtain ⟨x, hx⟩ := h n (by omega)
    have e : (List.range (n + 1)).filterMap f = (List.range n).filterMap f ++ [x] := by
      rw [List.range_succ, List.filterMap_append]
      simp [hx]
    rw [e]
    refine ⟨by rw [List.length_append, h1]; rfl, fun i => ?_⟩
    rw [List.getElem?_append, h1]
    by_cases c : i < n
    · rw [if_pos c, h2, if_pos c, if_pos (by omega)]
    · rw [if_neg c]
      by_cases c2 : i = n
      · subst c2
        simp [hx]
      · rw [if_neg (by omega)]
        exact List.getElem?_eq_none (by simp; omega)
theorem stp_rev {α : Type} (xs : List α) : stp xs (-1) = xs.reverse := by
  have hn : stpN (-1) xs.length = xs.length := by
    unfold stpN
    rw [if_neg (by decide)]
    by_cases h : (xs.length : Int) - 1 > -1
    · rw [if_pos h, show -(-1 : Int) = 1 from rfl, Int.ediv_one]
      omega
    · rw [if_neg h]
      omega
  have hlo : stpLo (-1) xs.length = (xs.length : Int) - 1 := by
    unfold stpLo
    rw [if_pos (by decide)]
  have hf : ∀ j : Nat, ((xs.length : Int) - 1 + (j : Int) * (-1)).toNat = xs.length - 1 - j := fun j => by omega
  unfold stp
  simp only [hn, hlo, hf]
  obtain ⟨h1, h2⟩ := fm_range (f := fun j => xs[xs.length - 1 - j]?) xs.length (fun j hj => ⟨_, List.getElem?_eq_getElem (by omega)⟩)
  apply List.ext_getElem?
  intro i
  rw [h2]
  by_cases c : i < xs.length
  · rw [if_pos c, List.getElem?_reverse c]
  · rw [if_neg c]
    exact (List.getElem?_eq_none (by rw [List.length_reverse]; omega)).symm
theorem le_up {G0 G : UH} {a : Addr} {o : UO} (h0 : G0 a = none) (l : Le G0 G) : Le G0 (up G a o) := fun b u e => by
  rw [up_ne (fun z => by subst z; rw [h0] at e; cases e)]
  exact l b u e
/-- a comprehension whose turns let the heap grow -/
theorem lcU_grow {ds : Deps} {p : Addr} {g : U → (USt → UH → Prop) → UH → Prop} {tt : USt → UH → (Bool → UH → Prop) → Prop} {te : USt → UH → UK → Prop} {Q : UK} (f : U → U) {G0 : UH} (h0 : G0 p = none) (hd : depsOk G0 ds) :
    ∀ (ys acc : List U) (G : UH), Le G0 G → G p = some (.lst acc) → acc.length + ys.length ≤ sizeLine →
      (∀ y ∈ ys, ∀ (acc : List U) (G : UH) (K1 : UK) (K0 : UH → Prop), Le G0 G → G p = some (.lst acc) → (∀ G', Le G G' → K1 (f y) G') → g y (fun s1 G1 => tt s1 G1 fun b G2 => if b = true then te s1 G2 K1 else K0 G2) G) →
      (∀ G, Le G0 G → G p = some (.lst (acc ++ ys.map f)) → Q (.ref p) G) → lcU ds p g tt te Q ys acc G
  | [], acc, G, l, h, _, _, q => ⟨deps_le l hd, h, q G l (by rw [List.map_nil, List.append_nil]; exact h)⟩
  | y :: ys, acc, G, l, h, hl, st, q => by
    refine ⟨deps_le l hd, h, st y List.mem_cons_self acc G _ _ l h fun G' l' => ⟨l' _ _ h, by simp only [List.length_cons] at hl; omega, _, .refl _, ?_⟩⟩
    refine lcU_grow f h0 hd ys (acc ++ [f y]) _ (le_up h0 (l.trans l')) up_same (by simp only [List.length_cons, List.length_append, List.length_nil] at hl ⊢; omega) (fun z hz => st z (List.mem_cons_of_mem _ hz)) fun G2 l2 h2 => q G2 l2 ?_
    rw [h2]
    simp
theorem z_0 : (0 ≤ sizeLine) = True := eq_true (by have := line_ge; omega)
theorem z_1 : (1 ≤ sizeLine) = True := eq_true (by have := line_ge; omega)
theorem z_2 : (2 ≤ sizeLine) = True := eq_true (by have := line_ge; omega)
theorem z_3 : (3 ≤ sizeLine) = True := eq_true (by have := line_ge; omega)
theorem z_4 : (4 ≤ sizeLine) = True := eq_true (by have := line_ge; omega)
theorem z_5 : (5 ≤ sizeLine) = True := eq_true (by have := line_ge; omega)
theorem z_6 : (6 ≤ sizeLine) = True := eq_true (by have := line_ge; omega)
theorem z_7 : (7 ≤ sizeLine) = True := eq_true (by have := line_ge; omega)
theorem z_8 : (8 ≤ sizeLine) = True := eq_true (by have := line_ge; omega)
theorem z_9 : (9 ≤ sizeLine) = True := eq_true (by have := line_ge; omega)
theorem z_10 : (10 ≤ sizeLine) = True := eq_true (by have := line_ge; omega)
theorem z_11 : (11 ≤ sizeLine) = True := eq_true (by have := line_ge; omega)
theorem z_12 : (12 ≤ sizeLine) = True := eq_true (by have := line_ge; omega)
theorem z_13 : (13 ≤ sizeLine) = True := eq_true (by have := line_ge; omega)
theorem z_14 : (14 ≤ sizeLine) = True := eq_true (by have := line_ge; omega)
theorem z_15 : (15 ≤ sizeLine) = True := eq_true (by have := line_ge; omega)
theorem z_16 : (16 ≤ sizeLine) = True := eq_true (by have := line_ge; omega)
/-- what is of a type stays so -/
def Tk (G G' : UH) : Prop := ∀ u, tyS G u → tyS G' u
theorem Tk.of_le {G G' : UH} (l : Le G G') : Tk G G' := fun _ h => tyS_le l h
theorem Tk.trans {G1 G2 G3 : UH} (a : Tk G1 G2) (b : Tk G2 G3) : Tk G1 G3 := fun u h => b u (a u h)
theorem ty_ref {G : UH} {a : Addr} {us : List U} (h : G a = some (.lst us)) : tyS G (.ref a) := by
  unfold tyS tyN
  simp [h]
theorem Tk.of_ref {G G' : UH} (h : ∀ a, tyS G (.ref a) → tyS G' (.ref a)) : Tk G G' := fun u hu => by
  cases u with
  | ref a => exact h a hu
  | ty n => exact hu
  | _ => rfl
theorem Tk.of_fr {p g : Addr} {G G' : UH} (hP : Pur G' p g) (f : Fr p g G G') : Tk G G' := Tk.of_ref fun a h => by
  obtain ⟨_, sd, gr, e1, e2⟩ := hP
  by_cases h1 : a = p
  · subst h1; exact ty_ref e1
  · by_cases h2 : a = g
    · subst h2; exact ty_ref e2
    · unfold tyS tyN at h ⊢
      dsimp only at h ⊢
      cases e : G a with
      | none => rw [e] at h; cases h
      | some o => rw [e] at h; rw [f a o h1 h2 e]; exact h
theorem Tk.of_up {G : UH} {r : Addr} {x y : List U} (h : G r = some (.lst x)) : Tk G (up G r (.lst y)) := Tk.of_ref fun a ha => by
  by_cases e : a = r
  · subst e; exact ty_ref up_same
  · unfold tyS tyN at ha ⊢
    dsimp only at ha ⊢
    rw [up_ne e]
    exact ha
end UL
set_option Elab.async false
set_option linter.all false
set_option autoImplicit false
set_option maxHeartbeats 4000000

/-! the trees of the law (written by gen.py) -/
namespace K79
open PySem PySem.Spec L2 UL
set_option maxRecDepth 100000
def top (i : Nat) : Stmt := PySem.Challenge.pw_samesamples_k79_whole_sounds_by_rows.main.body.getD i (.Pass ⟨0, 0, 0, 0⟩)
def xcs : Xcs := [("NotUsable", ["at", "word"])]
def sub : Nat → Nat → Bool
  | 0, 0 => true
  | _, _ => false
abbrev s_is_integer : Stmt := top 6
def n_is_integer : List Str := ["thing"]
def p_is_integer : List Str := ["thing"]
@[irreducible] def b_is_integer : Sms := (.cons (.ret (.and (.blt .isi (.cons (.var 0) (.cons (.ty "int") .nil))) (.not (.blt .isi (.cons (.var 0) (.cons (.ty "bool") .nil)))))) .nil)
-- is_integer: slots [(0, 'thing')]; calls []; cells []
abbrev s_is_number : Stmt := top 7
def n_is_number : List Str := ["thing"]
def p_is_number : List Str := ["thing"]
@[irreducible] def b_is_number : Sms := (.cons (.ret (.and (.call 0 (.cons (.var 0) .nil)) (.cmp .GtE (.var 0) (.int 0)))) .nil)
-- is_number: slots [(0, 'thing')]; calls ['is_integer']; cells []
abbrev s_is_worth : Stmt := top 8
def n_is_worth : List Str := ["thing"]
def p_is_worth : List Str := ["thing"]
@[irreducible] def b_is_worth : Sms := (.cons (.ret (.and (.call 0 (.cons (.var 0) .nil)) (.chain .LtE .LtE (.neg (.gl 0)) (.var 0) (.gl 0)))) .nil)
-- is_worth: slots [(0, 'thing')]; calls ['is_integer']; cells []
abbrev s_is_sound : Stmt := top 9
def n_is_sound : List Str := ["thing", "worth"]
def p_is_sound : List Str := ["thing"]
@[irreducible] def l1_is_sound : Sms := (.cons (.ife (.not (.call 0 (.cons (.var 1) .nil))) (.cons (.ret (.bl false)) .nil) .nil) .nil)
@[irreducible] def t1_is_sound : Sms := (.cons (.ret (.bl true)) .nil)
@[irreducible] def t2_is_sound : Sms := (.cons (.for_ (.nm 1) (.val (.var 0)) l1_is_sound) t1_is_sound)
@[irreducible] def b_is_sound : Sms := (.cons (.ife (.not (.blt .isi (.cons (.var 0) (.cons (.ty "tuple") .nil)))) (.cons (.ret (.bl false)) .nil) .nil) t2_is_sound)
-- is_sound: slots [(0, 'thing'), (1, 'worth')]; calls ['is_worth']; cells []
abbrev s_is_mode : Stmt := top 10
def n_is_mode : List Str := ["thing"]
def p_is_mode : List Str := ["thing"]
@[irreducible] def b_is_mode : Sms := (.cons (.ret (.and (.blt .isi (.cons (.var 0) (.cons (.ty "str") .nil))) (.cmp .In (.var 0) (.tup (.cons (.str "down") (.cons (.str "near") (.cons (.str "zero") .nil))))))) .nil)
-- is_mode: slots [(0, 'thing')]; calls []; cells []
abbrev s_is_points : Stmt := top 13
def n_is_points : List Str := ["thing", "ahead", "pair", "pos", "worth"]
def p_is_points : List Str := ["thing"]
@[irreducible] def t1_is_points : Sms := (.cons (.asg (.nm 1) (.var 3)) .nil)
@[irreducible] def t2_is_points : Sms := (.cons (.ife (.and (.cmp .IsNot (.var 1) .non) (.cmp .LtE (.var 3) (.var 1))) (.cons (.ret (.bl false)) .nil) .nil) t1_is_points)
@[irreducible] def t3_is_points : Sms := (.cons (.ife (.or (.not (.call 0 (.cons (.var 3) .nil))) (.not (.call 0 (.cons (.var 4) .nil)))) (.cons (.ret (.bl false)) .nil) .nil) t2_is_points)
@[irreducible] def t4_is_points : Sms := (.cons (.asg (.tup (.cons (.nm 3) (.cons (.nm 4) .nil))) (.var 2)) t3_is_points)
@[irreducible] def l1_is_points : Sms := (.cons (.ife (.or (.not (.blt .isi (.cons (.var 2) (.cons (.ty "tuple") .nil)))) (.cmp .NotEq (.blt .len (.cons (.var 2) .nil)) (.int 2))) (.cons (.ret (.bl false)) .nil) .nil) t4_is_points)
@[irreducible] def t5_is_points : Sms := (.cons (.ret (.bl true)) .nil)
@[irreducible] def t6_is_points : Sms := (.cons (.for_ (.nm 2) (.val (.var 0)) l1_is_points) t5_is_points)
@[irreducible] def t7_is_points : Sms := (.cons (.asg (.nm 1) .non) t6_is_points)
@[irreducible] def b_is_points : Sms := (.cons (.ife (.or (.not (.blt .isi (.cons (.var 0) (.cons (.ty "tuple") .nil)))) (.not (.chain .LtE .LtE (.int 1) (.blt .len (.cons (.var 0) .nil)) (.gl 1)))) (.cons (.ret (.bl false)) .nil) .nil) t7_is_points)
-- is_points: slots [(0, 'thing'), (1, 'ahead'), (2, 'pair'), (3, 'pos'), (4, 'worth')]; calls ['is_worth']; cells []
abbrev s_curve_at : Stmt := top 14
def n_curve_at : List Str := ["points", "pos", "place", "end", "last", "start", "first"]
def p_curve_at : List Str := ["points", "pos"]
@[irreducible] def t1_curve_at : Sms := (.cons (.ret (.bin .Add (.var 6) (.bin .FloorDiv (.bin .Mult (.bin .Sub (.var 4) (.var 6)) (.bin .Sub (.var 1) (.var 5))) (.bin .Sub (.var 3) (.var 5))))) .nil)
@[irreducible] def t2_curve_at : Sms := (.cons (.ife (.cmp .LtE (.var 1) (.var 3)) (.cons (.asg (.tup (.cons (.nm 5) (.cons (.nm 6) .nil))) (.ix (.var 0) (.bin .Sub (.var 2) (.int 1)))) t1_curve_at) .nil) .nil)
@[irreducible] def l1_curve_at : Sms := (.cons (.asg (.tup (.cons (.nm 3) (.cons (.nm 4) .nil))) (.ix (.var 0) (.var 2))) t2_curve_at)
@[irreducible] def t3_curve_at : Sms := (.cons (.ret (.ix (.ix (.var 0) (.neg (.int 1))) (.int 1))) .nil)
@[irreducible] def t4_curve_at : Sms := (.cons (.for_ (.nm 2) (.rng2 (.int 1) (.blt .len (.cons (.var 0) .nil))) l1_curve_at) t3_curve_at)
@[irreducible] def t5_curve_at : Sms := (.cons (.ife (.cmp .LtE (.var 1) (.ix (.ix (.var 0) (.int 0)) (.int 0))) (.cons (.ret (.ix (.ix (.var 0) (.int 0)) (.int 1))) .nil) .nil) t4_curve_at)
@[irreducible] def b_curve_at : Sms := (.cons (.ife (.not (.call 0 (.cons (.var 1) .nil))) (.cons (.raise 0 (.cons (.str "pos") (.cons (.neg (.int 1)) .nil))) .nil) .nil) t5_curve_at)
-- curve_at: slots [(0, 'points'), (1, 'pos'), (2, 'place'), (3, 'end'), (4, 'last'), (5, 'start'), (6, 'first')]; calls ['is_integer']; cells []
abbrev s_clip : Stmt := top 16
def n_clip : List Str := ["value"]
def p_clip : List Str := ["value"]
@[irreducible] def t1_clip : Sms := (.cons (.ret (.blt .max2 (.cons (.neg (.gl 0)) (.cons (.blt .min2 (.cons (.gl 0) (.cons (.var 0) .nil))) .nil)))) .nil)
@[irreducible] def b_clip : Sms := (.cons (.ife (.not (.call 0 (.cons (.var 0) .nil))) (.cons (.raise 0 (.cons (.str "value") (.cons (.neg (.int 1)) .nil))) .nil) .nil) t1_clip)
-- clip: slots [(0, 'value')]; calls ['is_integer']; cells []
abbrev s_turned : Stmt := top 17
def n_turned : List Str := ["value", "many", "mode"]
def p_turned : List Str := ["value", "many", "mode"]
@[irreducible] def t1_turned : Sms := (.cons (.ret (.bin .FloorDiv (.var 0) (.var 1))) .nil)
@[irreducible] def t2_turned : Sms := (.cons (.ife (.and (.cmp .Eq (.var 2) (.str "zero")) (.cmp .Lt (.var 0) (.int 0))) (.cons (.ret (.neg (.bin .FloorDiv (.neg (.var 0)) (.var 1)))) .nil) .nil) t1_turned)
@[irreducible] def t3_turned : Sms := (.cons (.ife (.cmp .Eq (.var 2) (.str "near")) (.cons (.ret (.bin .FloorDiv (.bin .Add (.bin .Mult (.int 2) (.var 0)) (.var 1)) (.bin .Mult (.int 2) (.var 1)))) .nil) .nil) t2_turned)
@[irreducible] def t4_turned : Sms := (.cons (.ife (.not (.call 1 (.cons (.var 2) .nil))) (.cons (.raise 0 (.cons (.str "mode") (.cons (.neg (.int 1)) .nil))) .nil) .nil) t3_turned)
@[irreducible] def t5_turned : Sms := (.cons (.ife (.or (.not (.call 0 (.cons (.var 1) .nil))) (.cmp .Lt (.var 1) (.int 1))) (.cons (.raise 0 (.cons (.str "many") (.cons (.neg (.int 1)) .nil))) .nil) .nil) t4_turned)
@[irreducible] def b_turned : Sms := (.cons (.ife (.not (.call 0 (.cons (.var 0) .nil))) (.cons (.raise 0 (.cons (.str "value") (.cons (.neg (.int 1)) .nil))) .nil) .nil) t5_turned)
-- turned: slots [(0, 'value'), (1, 'many'), (2, 'mode')]; calls ['is_integer', 'is_mode']; cells []
abbrev s_cut : Stmt := top 19
def n_cut : List Str := ["sound", "low", "high"]
def p_cut : List Str := ["sound", "low", "high"]
@[irreducible] def t1_cut : Sms := (.cons (.ret (.sl (.var 0) (.yes (.var 1)) (.yes (.var 2)))) .nil)
@[irreducible] def t2_cut : Sms := (.cons (.ife (.or (.not (.call 1 (.cons (.var 2) .nil))) (.or (.cmp .Lt (.var 2) (.var 1)) (.cmp .Gt (.var 2) (.blt .len (.cons (.var 0) .nil))))) (.cons (.raise 0 (.cons (.str "high") (.cons (.neg (.int 1)) .nil))) .nil) .nil) t1_cut)
@[irreducible] def t3_cut : Sms := (.cons (.ife (.not (.call 1 (.cons (.var 1) .nil))) (.cons (.raise 0 (.cons (.str "low") (.cons (.neg (.int 1)) .nil))) .nil) .nil) t2_cut)
@[irreducible] def b_cut : Sms := (.cons (.ife (.not (.call 0 (.cons (.var 0) .nil))) (.cons (.raise 0 (.cons (.str "sound") (.cons (.neg (.int 1)) .nil))) .nil) .nil) t3_cut)
-- cut: slots [(0, 'sound'), (1, 'low'), (2, 'high')]; calls ['is_sound', 'is_number']; cells []
abbrev s_joined : Stmt := top 20
def n_joined : List Str := ["sounds", "sound", "worth"]
def p_joined : List Str := ["sounds"]
@[irreducible] def t1_joined : Sms := (.cons (.ret (.blt .tuple (.cons (.lc2 (.var 2) (.nm 1) (.val (.var 0)) .no (.nm 2) (.val (.var 1)) .no) .nil))) .nil)
@[irreducible] def b_joined : Sms := (.cons (.ife (.or (.not (.blt .isi (.cons (.var 0) (.cons (.ty "tuple") .nil)))) (.not (.blt .all (.cons (.lc (.call 0 (.cons (.var 1) .nil)) (.nm 1) (.val (.var 0)) .no) .nil)))) (.cons (.raise 0 (.cons (.str "sounds") (.cons (.neg (.int 1)) .nil))) .nil) .nil) t1_joined)
-- joined: slots [(0, 'sounds'), (1, 'sound'), (2, 'worth')]; calls ['is_sound']; cells []
abbrev s__is_sound_part : Stmt := top 21
def n__is_sound_part : List Str := ["thing"]
def p__is_sound_part : List Str := ["thing"]
@[irreducible] def b__is_sound_part : Sms := (.cons (.ret (.and (.blt .isi (.cons (.var 0) (.cons (.ty "tuple") .nil))) (.and (.cmp .Eq (.blt .len (.cons (.var 0) .nil)) (.int 2)) (.and (.call 1 (.cons (.ix (.var 0) (.int 0)) .nil)) (.call 0 (.cons (.ix (.var 0) (.int 1)) .nil)))))) .nil)
-- _is_sound_part: slots [(0, 'thing')]; calls ['is_number', 'is_sound']; cells []
abbrev s_mixed : Stmt := top 22
def n_mixed : List Str := ["parts", "part", "sums", "sound", "place", "k", "worth", "total"]
def p_mixed : List Str := ["parts"]
@[irreducible] def l1_mixed : Sms := (.cons (.augS (.var 2) (.bin .Add (.var 4) (.var 5)) .Add (.var 6)) .nil)
@[irreducible] def l2_mixed : Sms := (.cons (.for_ (.tup (.cons (.nm 5) (.cons (.nm 6) .nil))) (.enum (.var 3)) l1_mixed) .nil)
@[irreducible] def t1_mixed : Sms := (.cons (.ret (.blt .tuple (.cons (.lc (.call 1 (.cons (.var 7) .nil)) (.nm 7) (.val (.var 2)) .no) .nil))) .nil)
@[irreducible] def t2_mixed : Sms := (.cons (.for_ (.tup (.cons (.nm 3) (.cons (.nm 4) .nil))) (.val (.var 0)) l2_mixed) t1_mixed)
@[irreducible] def t3_mixed : Sms := (.cons (.asg (.nm 2) (.bin .Mult (.lst (.cons (.int 0) .nil)) (.maxd (.lc (.bin .Add (.var 4) (.blt .len (.cons (.var 3) .nil))) (.tup (.cons (.nm 3) (.cons (.nm 4) .nil))) (.val (.var 0)) .no) (.int 0)))) t2_mixed)
@[irreducible] def b_mixed : Sms := (.cons (.ife (.or (.not (.blt .isi (.cons (.var 0) (.cons (.ty "tuple") .nil)))) (.not (.blt .all (.cons (.lc (.call 0 (.cons (.var 1) .nil)) (.nm 1) (.val (.var 0)) .no) .nil)))) (.cons (.raise 0 (.cons (.str "parts") (.cons (.neg (.int 1)) .nil))) .nil) .nil) t3_mixed)
-- mixed: slots [(0, 'parts'), (1, 'part'), (2, 'sums'), (3, 'sound'), (4, 'place'), (5, 'k'), (6, 'worth'), (7, 'total')]; calls ['_is_sound_part', 'clip']; cells []
abbrev s_faded : Stmt := top 23
def n_faded : List Str := ["sound", "points", "scaled", "k", "worth", "value"]
def p_faded : List Str := ["sound", "points"]
@[irreducible] def t1_faded : Sms := (.cons (.ret (.blt .tuple (.cons (.lc (.call 3 (.cons (.call 4 (.cons (.var 5) (.cons (.int 4096) (.cons (.str "near") .nil)))) .nil)) (.nm 5) (.val (.var 2)) .no) .nil))) .nil)
@[irreducible] def t2_faded : Sms := (.cons (.setLc 2 (.bin .Mult (.var 4) (.call 2 (.cons (.var 1) (.cons (.var 3) .nil)))) (.tup (.cons (.nm 3) (.cons (.nm 4) .nil))) (.enum (.var 0)) .no) t1_faded)
@[irreducible] def t3_faded : Sms := (.cons (.ife (.not (.call 1 (.cons (.var 1) .nil))) (.cons (.raise 0 (.cons (.str "points") (.cons (.neg (.int 1)) .nil))) .nil) .nil) t2_faded)
@[irreducible] def b_faded : Sms := (.cons (.ife (.not (.call 0 (.cons (.var 0) .nil))) (.cons (.raise 0 (.cons (.str "sound") (.cons (.neg (.int 1)) .nil))) .nil) .nil) t3_faded)
-- faded: slots [(0, 'sound'), (1, 'points'), (2, 'scaled'), (3, 'k'), (4, 'worth'), (5, 'value')]; calls ['is_sound', 'is_points', 'curve_at', 'clip', 'turned']; cells ['points']
abbrev s_turned_back : Stmt := top 24
def n_turned_back : List Str := ["sound"]
def p_turned_back : List Str := ["sound"]
@[irreducible] def t1_turned_back : Sms := (.cons (.ret (.stp (.var 0) (.neg (.int 1)))) .nil)
@[irreducible] def b_turned_back : Sms := (.cons (.ife (.not (.call 0 (.cons (.var 0) .nil))) (.cons (.raise 0 (.cons (.str "sound") (.cons (.neg (.int 1)) .nil))) .nil) .nil) t1_turned_back)
-- turned_back: slots [(0, 'sound')]; calls ['is_sound']; cells []
abbrev s__law_purse : Stmt := top 26
def n__law_purse : List Str := ["_law_script", "_law_seed", "_law_great", "_law_k", "_law_cell"]
def p__law_purse : List Str := ["_law_script"]
@[irreducible] def t1__law_purse : Sms := (.cons (.asg (.nm 1) (.bin .Mod (.blt .int (.cons (.bin .Add (.bin .Add (.bin .Add (.bin .Mult (.var 1) (.int 39119)) (.bin .Mult (.bin .Mod (.blt .int (.cons (.var 4) .nil)) (.int 999979)) (.int 1709))) (.bin .Mult (.int 5) (.var 3))) (.int 11)) .nil)) (.int 2147483579))) .nil)
@[irreducible] def t2__law_purse : Sms := (.cons (.ife (.cmp .GtE (.blt .abs (.cons (.var 4) .nil)) (.bin .Pow (.int 10) (.int 18))) (.cons (.expr (.mth .append (.var 2) (.cons (.bin .Add (.bin .Mult (.int 2) (.blt .abs (.cons (.var 4) .nil))) (.blt .int (.cons (.cmp .Lt (.var 4) (.int 0)) .nil))) .nil))) .nil) .nil) t1__law_purse)
@[irreducible] def l1__law_purse : Sms := (.cons (.asg (.nm 4) (.blt .int (.cons (.ix (.var 0) (.var 3)) .nil))) t2__law_purse)
@[irreducible] def t3__law_purse : Sms := (.cons (.ret (.lst (.cons (.var 1) (.cons (.var 2) .nil)))) .nil)
@[irreducible] def t4__law_purse : Sms := (.cons (.for_ (.nm 3) (.rng1 (.blt .len (.cons (.var 0) .nil))) l1__law_purse) t3__law_purse)
@[irreducible] def t5__law_purse : Sms := (.cons (.asg (.nm 2) (.lst .nil)) t4__law_purse)
@[irreducible] def b__law_purse : Sms := (.cons (.asg (.nm 1) (.int 71993)) t5__law_purse)
-- _law_purse: slots [(0, '_law_script'), (1, '_law_seed'), (2, '_law_great'), (3, '_law_k'), (4, '_law_cell')]; calls []; cells []
abbrev s__law_pick : Stmt := top 27
def n__law_pick : List Str := ["_law_purse_here", "_law_many", "_law_great", "_law_cell"]
def p__law_pick : List Str := ["_law_purse_here", "_law_many"]
@[irreducible] def t1__law_pick : Sms := (.cons (.ret (.bin .Mod (.blt .int (.cons (.var 3) .nil)) (.var 1))) .nil)
@[irreducible] def t2__law_pick : Sms := (.cons (.ife (.cmp .Eq (.ix (.var 2) (.int 0)) (.int 0)) (.cons (.expr (.mth .popAt (.var 2) (.cons (.int 0) .nil))) .nil) .nil) t1__law_pick)
@[irreducible] def t3__law_pick : Sms := (.cons (.sub (.var 2) (.int 0) (.bin .FloorDiv (.blt .int (.cons (.var 3) .nil)) (.var 1))) t2__law_pick)
@[irreducible] def t4__law_pick : Sms := (.cons (.ret (.bin .Mod (.bin .Mod (.blt .int (.cons (.bin .Add (.bin .Mult (.bin .FloorDiv (.ix (.var 0) (.int 0)) (.int 7)) (.int 40127)) (.ix (.var 0) (.int 0))) .nil)) (.int 2147483543)) (.var 1))) .nil)
@[irreducible] def t5__law_pick : Sms := (.cons (.sub (.var 0) (.int 0) (.bin .Mod (.blt .int (.cons (.bin .Add (.bin .Mult (.ix (.var 0) (.int 0)) (.int 48017)) (.int 30011)) .nil)) (.int 2147483579))) t4__law_pick)
@[irreducible] def t6__law_pick : Sms := (.cons (.ife (.cmp .Gt (.blt .len (.cons (.var 2) .nil)) (.int 0)) (.cons (.asg (.nm 3) (.ix (.var 2) (.int 0))) t3__law_pick) .nil) t5__law_pick)
@[irreducible] def b__law_pick : Sms := (.cons (.asg (.nm 2) (.ix (.var 0) (.int 1))) t6__law_pick)
-- _law_pick: slots [(0, '_law_purse_here'), (1, '_law_many'), (2, '_law_great'), (3, '_law_cell')]; calls []; cells []
abbrev s__law_worth : Stmt := top 28
def n__law_worth : List Str := ["_law_purse_here", "_law_which"]
def p__law_worth : List Str := ["_law_purse_here"]
@[irreducible] def t1__law_worth : Sms := (.cons (.ret (.bin .Sub (.call 0 (.cons (.var 0) (.cons (.int 2097151) .nil))) (.int 1048575))) .nil)
@[irreducible] def t2__law_worth : Sms := (.cons (.ife (.cmp .Lt (.var 1) (.int 6)) (.cons (.ret (.bin .Sub (.call 0 (.cons (.var 0) (.cons (.int 9) .nil))) (.int 4))) .nil) .nil) t1__law_worth)
@[irreducible] def t3__law_worth : Sms := (.cons (.ife (.cmp .Eq (.var 1) (.int 2)) (.cons (.ret (.int 0)) .nil) .nil) t2__law_worth)
@[irreducible] def t4__law_worth : Sms := (.cons (.ife (.cmp .Eq (.var 1) (.int 1)) (.cons (.ret (.neg (.int 1048575))) .nil) .nil) t3__law_worth)
@[irreducible] def t5__law_worth : Sms := (.cons (.ife (.cmp .Eq (.var 1) (.int 0)) (.cons (.ret (.int 1048575)) .nil) .nil) t4__law_worth)
@[irreducible] def b__law_worth : Sms := (.cons (.asg (.nm 1) (.call 0 (.cons (.var 0) (.cons (.int 8) .nil)))) t5__law_worth)
-- _law_worth: slots [(0, '_law_purse_here'), (1, '_law_which')]; calls ['_law_pick']; cells []
abbrev s__law_sound : Stmt := top 29
def n__law_sound : List Str := ["_law_purse_here", "_law_size", "_law_k"]
def p__law_sound : List Str := ["_law_purse_here"]
@[irreducible] def t1__law_sound : Sms := (.cons (.ret (.blt .tuple (.cons (.lc (.call 1 (.cons (.var 0) .nil)) (.nm 2) (.rng1 (.var 1)) .no) .nil))) .nil)
@[irreducible] def t2__law_sound : Sms := (.cons (.ife (.cmp .Eq (.call 0 (.cons (.var 0) (.cons (.int 8) .nil))) (.int 0)) (.cons (.asg (.nm 1) (.bin .Add (.int 20) (.call 0 (.cons (.var 0) (.cons (.int 41) .nil))))) .nil) .nil) t1__law_sound)
@[irreducible] def b__law_sound : Sms := (.cons (.asg (.nm 1) (.call 0 (.cons (.var 0) (.cons (.int 10) .nil)))) t2__law_sound)
-- _law_sound: slots [(0, '_law_purse_here'), (1, '_law_size'), (2, '_law_k')]; calls ['_law_pick', '_law_worth']; cells ['_law_purse_here']
abbrev s__law_points : Stmt := top 30
def n__law_points : List Str := ["_law_purse_here", "_law_size", "_law_pos", "_law_rows", "_law_k", "_law_worth_here"]
def p__law_points : List Str := ["_law_purse_here"]
@[irreducible] def t1__law_points : Sms := (.cons (.ife (.cmp .Eq (.call 0 (.cons (.var 0) (.cons (.int 9) .nil))) (.int 0)) (.cons (.asg (.nm 2) (.bin .Add (.var 2) (.int 900))) .nil) .nil) .nil)
@[irreducible] def t2__law_points : Sms := (.cons (.asg (.nm 2) (.bin .Add (.bin .Add (.var 2) (.int 1)) (.call 0 (.cons (.var 0) (.cons (.int 4) .nil))))) t1__law_points)
@[irreducible] def t3__law_points : Sms := (.cons (.expr (.mth .append (.var 3) (.cons (.tup (.cons (.var 2) (.cons (.var 5) .nil))) .nil))) t2__law_points)
@[irreducible] def t4__law_points : Sms := (.cons (.ife (.cmp .Eq (.call 0 (.cons (.var 0) (.cons (.int 3) .nil))) (.int 0)) (.cons (.asg (.nm 5) (.int 4096)) .nil) .nil) t3__law_points)
@[irreducible] def l1__law_points : Sms := (.cons (.asg (.nm 5) (.call 1 (.cons (.var 0) .nil))) t4__law_points)
@[irreducible] def t5__law_points : Sms := (.cons (.ret (.blt .tuple (.cons (.var 3) .nil))) .nil)
@[irreducible] def t6__law_points : Sms := (.cons (.for_ (.nm 4) (.rng1 (.var 1)) l1__law_points) t5__law_points)
@[irreducible] def t7__law_points : Sms := (.cons (.asg (.nm 3) (.lst .nil)) t6__law_points)
@[irreducible] def t8__law_points : Sms := (.cons (.ife (.cmp .Eq (.call 0 (.cons (.var 0) (.cons (.int 8) .nil))) (.int 0)) (.cons (.asg (.nm 2) (.neg (.int 1048575))) .nil) .nil) t7__law_points)
@[irreducible] def t9__law_points : Sms := (.cons (.asg (.nm 2) (.bin .Sub (.call 0 (.cons (.var 0) (.cons (.int 16) .nil))) (.int 8))) t8__law_points)
@[irreducible] def t10__law_points : Sms := (.cons (.ife (.cmp .Eq (.call 0 (.cons (.var 0) (.cons (.int 16) .nil))) (.int 0)) (.cons (.asg (.nm 1) (.int 64)) .nil) .nil) t9__law_points)
@[irreducible] def b__law_points : Sms := (.cons (.asg (.nm 1) (.bin .Add (.int 1) (.call 0 (.cons (.var 0) (.cons (.int 5) .nil))))) t10__law_points)
-- _law_points: slots [(0, '_law_purse_here'), (1, '_law_size'), (2, '_law_pos'), (3, '_law_rows'), (4, '_law_k'), (5, '_law_worth_here')]; calls ['_law_pick', '_law_worth']; cells []
abbrev s__law_curve : Stmt := top 31
def n__law_curve : List Str := ["_law_rows", "_law_at", "_law_behind", "_law_row", "_law_here", "_law_there", "_law_wide", "_law_rise"]
def p__law_curve : List Str := ["_law_rows", "_law_at"]
@[irreducible] def t1__law_curve : Sms := (.cons (.ret (.bin .Sub (.ix (.var 4) (.int 1)) (.bin .FloorDiv (.bin .Sub (.bin .Sub (.var 6) (.int 1)) (.var 7)) (.var 6)))) .nil)
@[irreducible] def t2__law_curve : Sms := (.cons (.ife (.cmp .GtE (.var 7) (.int 0)) (.cons (.ret (.bin .Add (.ix (.var 4) (.int 1)) (.bin .FloorDiv (.var 7) (.var 6)))) .nil) .nil) t1__law_curve)
@[irreducible] def t3__law_curve : Sms := (.cons (.asg (.nm 7) (.bin .Mult (.bin .Sub (.ix (.var 5) (.int 1)) (.ix (.var 4) (.int 1))) (.bin .Sub (.var 1) (.ix (.var 4) (.int 0))))) t2__law_curve)
@[irreducible] def t4__law_curve : Sms := (.cons (.asg (.nm 6) (.bin .Sub (.ix (.var 5) (.int 0)) (.ix (.var 4) (.int 0)))) t3__law_curve)
@[irreducible] def t5__law_curve : Sms := (.cons (.asg (.nm 5) (.ix (.var 0) (.blt .len (.cons (.var 2) .nil)))) t4__law_curve)
@[irreducible] def t6__law_curve : Sms := (.cons (.ife (.cmp .Eq (.blt .len (.cons (.var 2) .nil)) (.blt .len (.cons (.var 0) .nil))) (.cons (.ret (.ix (.var 4) (.int 1))) .nil) .nil) t5__law_curve)
@[irreducible] def t7__law_curve : Sms := (.cons (.asg (.nm 4) (.ix (.var 2) (.bin .Sub (.blt .len (.cons (.var 2) .nil)) (.int 1)))) t6__law_curve)
@[irreducible] def t8__law_curve : Sms := (.cons (.ife (.cmp .Eq (.blt .len (.cons (.var 2) .nil)) (.int 0)) (.cons (.ret (.ix (.ix (.var 0) (.int 0)) (.int 1))) .nil) .nil) t7__law_curve)
@[irreducible] def b__law_curve : Sms := (.cons (.setLc 2 (.var 3) (.nm 3) (.val (.var 0)) (.yes (.cmp .LtE (.ix (.var 3) (.int 0)) (.var 1)))) t8__law_curve)
-- _law_curve: slots [(0, '_law_rows'), (1, '_law_at'), (2, '_law_behind'), (3, '_law_row'), (4, '_law_here'), (5, '_law_there'), (6, '_law_wide'), (7, '_law_rise')]; calls []; cells ['_law_at']
abbrev s__law_middle : Stmt := top 32
def n__law_middle : List Str := ["_law_value"]
def p__law_middle : List Str := ["_law_value"]
@[irreducible] def b__law_middle : Sms := (.cons (.ret (.ix (.blt .sorted (.cons (.lst (.cons (.neg (.int 1048575)) (.cons (.var 0) (.cons (.int 1048575) .nil)))) .nil)) (.int 1))) .nil)
-- _law_middle: slots [(0, '_law_value')]; calls []; cells []
abbrev s__law_faded : Stmt := top 33
def n__law_faded : List Str := ["_law_worth_here", "_law_much", "_law_whole", "_law_rest"]
def p__law_faded : List Str := ["_law_worth_here", "_law_much"]
@[irreducible] def t1__law_faded : Sms := (.cons (.ret (.call 0 (.cons (.var 2) .nil))) .nil)
@[irreducible] def t2__law_faded : Sms := (.cons (.ife (.cmp .GtE (.var 3) (.int 2048)) (.cons (.asg (.nm 2) (.bin .Add (.var 2) (.int 1))) .nil) .nil) t1__law_faded)
@[irreducible] def b__law_faded : Sms := (.cons (.asg (.tup (.cons (.nm 2) (.cons (.nm 3) .nil))) (.blt .divmod (.cons (.bin .Mult (.var 0) (.var 1)) (.cons (.int 4096) .nil)))) t2__law_faded)
-- _law_faded: slots [(0, '_law_worth_here'), (1, '_law_much'), (2, '_law_whole'), (3, '_law_rest')]; calls ['_law_middle']; cells []
abbrev s__law_mixed : Stmt := top 34
def n__law_mixed : List Str := ["_law_parts", "_law_most", "_law_part", "_law_told_here", "_law_k", "_law_there"]
def p__law_mixed : List Str := ["_law_parts"]
@[irreducible] def l1__law_mixed : Sms := (.cons (.asg (.nm 1) (.blt .max2 (.cons (.var 1) (.cons (.bin .Add (.ix (.var 2) (.int 1)) (.blt .len (.cons (.ix (.var 2) (.int 0)) .nil))) .nil)))) .nil)
@[irreducible] def t1__law_mixed : Sms := (.cons (.expr (.mth .append (.var 3) (.cons (.call 0 (.cons (.blt .sum (.cons (.var 5) .nil)) .nil)) .nil))) .nil)
@[irreducible] def l2__law_mixed : Sms := (.cons (.setLc 5 (.ix (.ix (.var 2) (.int 0)) (.bin .Sub (.var 4) (.ix (.var 2) (.int 1)))) (.nm 2) (.val (.var 0)) (.yes (.and (.cmp .LtE (.ix (.var 2) (.int 1)) (.var 4)) (.cmp .Lt (.var 4) (.bin .Add (.ix (.var 2) (.int 1)) (.blt .len (.cons (.ix (.var 2) (.int 0)) .nil))))))) t1__law_mixed)
@[irreducible] def t2__law_mixed : Sms := (.cons (.ret (.blt .tuple (.cons (.var 3) .nil))) .nil)
@[irreducible] def t3__law_mixed : Sms := (.cons (.for_ (.nm 4) (.rng1 (.var 1)) l2__law_mixed) t2__law_mixed)
@[irreducible] def t4__law_mixed : Sms := (.cons (.asg (.nm 3) (.lst .nil)) t3__law_mixed)
@[irreducible] def t5__law_mixed : Sms := (.cons (.for_ (.nm 2) (.val (.var 0)) l1__law_mixed) t4__law_mixed)
@[irreducible] def b__law_mixed : Sms := (.cons (.asg (.nm 1) (.int 0)) t5__law_mixed)
-- _law_mixed: slots [(0, '_law_parts'), (1, '_law_most'), (2, '_law_part'), (3, '_law_told_here'), (4, '_law_k'), (5, '_law_there')]; calls ['_law_middle']; cells ['_law_k']
abbrev s__law_due : Stmt := top 35
def n__law_due : List Str := ["_law_deed_here", "_law_k", "_law_x", "_law_row", "_law_one"]
def p__law_due : List Str := ["_law_deed_here"]
@[irreducible] def l1__law_due : Sms := (.cons (.expr (.mth .append (.var 3) (.cons (.var 2) .nil))) .nil)
@[irreducible] def l2__law_due : Sms := (.cons (.for_ (.nm 2) (.val (.var 4)) l1__law_due) .nil)
@[irreducible] def t1__law_due : Sms := (.cons (.ret (.blt .tuple (.cons (.var 3) .nil))) .nil)
@[irreducible] def t2__law_due : Sms := (.cons (.for_ (.nm 4) (.val (.ix (.var 0) (.int 1))) l2__law_due) t1__law_due)
@[irreducible] def l3__law_due : Sms := (.cons (.expr (.mth .insert (.var 3) (.cons (.int 0) (.cons (.var 2) .nil)))) .nil)
@[irreducible] def t3__law_due : Sms := (.cons (.ret (.blt .tuple (.cons (.var 3) .nil))) .nil)
@[irreducible] def t4__law_due : Sms := (.cons (.for_ (.nm 2) (.val (.ix (.var 0) (.int 1))) l3__law_due) t3__law_due)
@[irreducible] def t5__law_due : Sms := (.cons (.asg (.nm 3) (.lst .nil)) t4__law_due)
@[irreducible] def t6__law_due : Sms := (.cons (.ife (.cmp .Eq (.ix (.var 0) (.int 0)) (.str "faded")) (.cons (.ret (.blt .tuple (.cons (.lc (.call 1 (.cons (.var 2) (.cons (.call 2 (.cons (.ix (.var 0) (.int 2)) (.cons (.var 1) .nil))) .nil))) (.tup (.cons (.nm 1) (.cons (.nm 2) .nil))) (.enum (.ix (.var 0) (.int 1))) .no) .nil))) .nil) .nil) t5__law_due)
@[irreducible] def t7__law_due : Sms := (.cons (.ife (.cmp .Eq (.ix (.var 0) (.int 0)) (.str "mixed")) (.cons (.ret (.call 0 (.cons (.ix (.var 0) (.int 1)) .nil))) .nil) .nil) t6__law_due)
@[irreducible] def t8__law_due : Sms := (.cons (.ife (.cmp .Eq (.ix (.var 0) (.int 0)) (.str "joined")) (.cons (.asg (.nm 3) (.lst .nil)) t2__law_due) .nil) t7__law_due)
@[irreducible] def b__law_due : Sms := (.cons (.ife (.cmp .Eq (.ix (.var 0) (.int 0)) (.str "cut")) (.cons (.ret (.blt .tuple (.cons (.lc (.var 2) (.tup (.cons (.nm 1) (.cons (.nm 2) .nil))) (.enum (.ix (.var 0) (.int 1))) (.yes (.and (.cmp .LtE (.ix (.var 0) (.int 2)) (.var 1)) (.cmp .Lt (.var 1) (.ix (.var 0) (.int 3)))))) .nil))) .nil) .nil) t8__law_due)
-- _law_due: slots [(0, '_law_deed_here'), (1, '_law_k'), (2, '_law_x'), (3, '_law_row'), (4, '_law_one')]; calls ['_law_mixed', '_law_faded', '_law_curve']; cells ['_law_deed_here']
abbrev s__law_told : Stmt := top 36
def n__law_told : List Str := ["_law_deed_here"]
def p__law_told : List Str := ["_law_deed_here"]
@[irreducible] def t1__law_told : Sms := (.cons (.ret (.call 4 (.cons (.ix (.var 0) (.int 1)) .nil))) .nil)
@[irreducible] def t2__law_told : Sms := (.cons (.ife (.cmp .Eq (.ix (.var 0) (.int 0)) (.str "faded")) (.cons (.ret (.call 3 (.cons (.ix (.var 0) (.int 1)) (.cons (.ix (.var 0) (.int 2)) .nil)))) .nil) .nil) t1__law_told)
@[irreducible] def t3__law_told : Sms := (.cons (.ife (.cmp .Eq (.ix (.var 0) (.int 0)) (.str "mixed")) (.cons (.ret (.call 2 (.cons (.ix (.var 0) (.int 1)) .nil))) .nil) .nil) t2__law_told)
@[irreducible] def t4__law_told : Sms := (.cons (.ife (.cmp .Eq (.ix (.var 0) (.int 0)) (.str "joined")) (.cons (.ret (.call 1 (.cons (.ix (.var 0) (.int 1)) .nil))) .nil) .nil) t3__law_told)
@[irreducible] def b__law_told : Sms := (.cons (.ife (.cmp .Eq (.ix (.var 0) (.int 0)) (.str "cut")) (.cons (.ret (.call 0 (.cons (.ix (.var 0) (.int 1)) (.cons (.ix (.var 0) (.int 2)) (.cons (.ix (.var 0) (.int 3)) .nil))))) .nil) .nil) t4__law_told)
-- _law_told: slots [(0, '_law_deed_here')]; calls ['cut', 'joined', 'mixed', 'faded', 'turned_back']; cells []
abbrev s__law_deed : Stmt := top 37
def n__law_deed : List Str := ["_law_purse_here", "_law_shelf", "_law_which", "_law_one", "_law_low", "_law_some", "_law_k", "_law_parts", "_law_x"]
def p__law_deed : List Str := ["_law_purse_here", "_law_shelf"]
@[irreducible] def t1__law_deed : Sms := (.cons (.ret (.tup (.cons (.var 2) (.cons (.var 3) (.cons (.var 4) (.cons (.bin .Add (.var 4) (.call 0 (.cons (.var 0) (.cons (.bin .Add (.bin .Sub (.blt .len (.cons (.var 3) .nil)) (.var 4)) (.int 1)) .nil)))) .nil)))))) .nil)
@[irreducible] def t2__law_deed : Sms := (.cons (.ret (.tup (.cons (.var 2) (.cons (.blt .tuple (.cons (.var 7) .nil)) .nil)))) .nil)
@[irreducible] def t3__law_deed : Sms := (.cons (.ife (.and (.cmp .Gt (.blt .len (.cons (.var 7) .nil)) (.int 0)) (.cmp .Eq (.call 0 (.cons (.var 0) (.cons (.int 20) .nil))) (.int 0))) (.cons (.asg (.nm 7) (.bin .Add (.lst (.cons (.tup (.cons (.ix (.var 5) (.int 0)) (.cons (.int 4000) .nil))) .nil)) (.sl (.var 7) .no (.yes (.int 1))))) .nil) .nil) t2__law_deed)
@[irreducible] def t4__law_deed : Sms := (.cons (.setLc 7 (.tup (.cons (.var 8) (.cons (.call 0 (.cons (.var 0) (.cons (.int 15) .nil))) .nil))) (.nm 8) (.val (.var 5)) .no) t3__law_deed)
@[irreducible] def t5__law_deed : Sms := (.cons (.ife (.cmp .Eq (.var 2) (.str "joined")) (.cons (.ret (.tup (.cons (.var 2) (.cons (.blt .tuple (.cons (.var 5) .nil)) .nil)))) .nil) .nil) t4__law_deed)
@[irreducible] def t6__law_deed : Sms := (.cons (.setLc 5 (.ix (.var 1) (.call 0 (.cons (.var 0) (.cons (.blt .len (.cons (.var 1) .nil)) .nil)))) (.nm 6) (.rng1 (.call 0 (.cons (.var 0) (.cons (.int 6) .nil)))) .no) t5__law_deed)
@[irreducible] def t7__law_deed : Sms := (.cons (.ife (.cmp .Eq (.var 2) (.str "back")) (.cons (.ret (.tup (.cons (.var 2) (.cons (.var 3) .nil)))) .nil) .nil) t6__law_deed)
@[irreducible] def t8__law_deed : Sms := (.cons (.ife (.cmp .Eq (.var 2) (.str "faded")) (.cons (.ret (.tup (.cons (.var 2) (.cons (.var 3) (.cons (.call 1 (.cons (.var 0) .nil)) .nil))))) .nil) .nil) t7__law_deed)
@[irreducible] def t9__law_deed : Sms := (.cons (.ife (.cmp .Eq (.var 2) (.str "cut")) (.cons (.asg (.nm 4) (.call 0 (.cons (.var 0) (.cons (.bin .Add (.blt .len (.cons (.var 3) .nil)) (.int 1)) .nil)))) t1__law_deed) .nil) t8__law_deed)
@[irreducible] def t10__law_deed : Sms := (.cons (.asg (.nm 3) (.ix (.var 1) (.call 0 (.cons (.var 0) (.cons (.blt .len (.cons (.var 1) .nil)) .nil))))) t9__law_deed)
@[irreducible] def b__law_deed : Sms := (.cons (.asg (.nm 2) (.ix (.lst (.cons (.str "cut") (.cons (.str "joined") (.cons (.str "mixed") (.cons (.str "mixed") (.cons (.str "faded") (.cons (.str "faded") (.cons (.str "back") .nil)))))))) (.call 0 (.cons (.var 0) (.cons (.int 7) .nil))))) t10__law_deed)
-- _law_deed: slots [(0, '_law_purse_here'), (1, '_law_shelf'), (2, '_law_which'), (3, '_law_one'), (4, '_law_low'), (5, '_law_some'), (6, '_law_k'), (7, '_law_parts'), (8, '_law_x')]; calls ['_law_pick', '_law_points']; cells ['_law_purse_here', '_law_shelf']
abbrev s__law_is_sound : Stmt := top 38
def n__law_is_sound : List Str := ["_law_thing", "_law_due_here", "_law_x", "_law_y"]
def p__law_is_sound : List Str := ["_law_thing", "_law_due_here"]
@[irreducible] def l1__law_is_sound : Sms := (.cons (.ife (.or (.not (.blt .isi (.cons (.var 2) (.cons (.ty "int") .nil)))) (.or (.blt .isi (.cons (.var 2) (.cons (.ty "bool") .nil))) (.cmp .NotEq (.var 2) (.var 3)))) (.cons (.ret (.bl false)) .nil) .nil) .nil)
@[irreducible] def t1__law_is_sound : Sms := (.cons (.ret (.bl true)) .nil)
@[irreducible] def t2__law_is_sound : Sms := (.cons (.for_ (.tup (.cons (.nm 2) (.cons (.nm 3) .nil))) (.zip (.var 0) (.var 1)) l1__law_is_sound) t1__law_is_sound)
@[irreducible] def b__law_is_sound : Sms := (.cons (.ife (.or (.not (.blt .isi (.cons (.var 0) (.cons (.ty "tuple") .nil)))) (.cmp .NotEq (.blt .len (.cons (.var 0) .nil)) (.blt .len (.cons (.var 1) .nil)))) (.cons (.ret (.bl false)) .nil) .nil) t2__law_is_sound)
-- _law_is_sound: slots [(0, '_law_thing'), (1, '_law_due_here'), (2, '_law_x'), (3, '_law_y')]; calls []; cells []
abbrev s__law_bad_sound : Stmt := top 39
def n__law_bad_sound : List Str := ["_law_at"]
def p__law_bad_sound : List Str := ["_law_at"]
@[irreducible] def b__law_bad_sound : Sms := (.cons (.ret (.ix (.lst (.cons (.lst (.cons (.int 1) (.cons (.int 2) .nil))) (.cons (.tup (.cons (.int 0) (.cons (.bl true) .nil))) (.cons (.tup (.cons (.int 3) (.cons (.int 1048576) .nil))) (.cons (.tup (.cons (.neg (.int 1048576)) .nil)) (.cons (.tup (.cons (.str "1") .nil)) (.cons .non (.cons (.str "ab") (.cons (.tup (.cons (.tup (.cons (.int 1) .nil)) .nil)) (.cons (.int 0) (.cons (.tup (.cons .non (.cons (.int 2) .nil))) (.cons (.tup (.cons (.lst (.cons (.int 4) .nil)) .nil)) .nil)))))))))))) (.var 0))) .nil)
-- _law_bad_sound: slots [(0, '_law_at')]; calls []; cells []
abbrev s__law_bad_joined : Stmt := top 40
def n__law_bad_joined : List Str := ["_law_at"]
def p__law_bad_joined : List Str := ["_law_at"]
@[irreducible] def b__law_bad_joined : Sms := (.cons (.ret (.ix (.lst (.cons (.lst (.cons (.tup (.cons (.int 1) .nil)) .nil)) (.cons (.tup (.cons (.tup (.cons (.int 1) .nil)) (.cons (.lst (.cons (.int 2) .nil)) .nil))) (.cons (.tup (.cons (.int 3) .nil)) (.cons .non (.cons (.tup (.cons (.tup (.cons (.bl false) .nil)) .nil)) (.cons (.str "") (.cons (.tup (.cons (.tup .nil) (.cons (.tup (.cons (.int 1048576) .nil)) .nil))) (.cons (.tup (.cons (.tup (.cons (.int 2) .nil)) (.cons .non .nil))) (.cons (.int 5) .nil)))))))))) (.var 0))) .nil)
-- _law_bad_joined: slots [(0, '_law_at')]; calls []; cells []
abbrev s__law_bad_parts : Stmt := top 41
def n__law_bad_parts : List Str := ["_law_at", "_law_rows"]
def p__law_bad_parts : List Str := ["_law_at"]
@[irreducible] def t1__law_bad_parts : Sms := (.cons (.ret (.ix (.var 1) (.var 0))) .nil)
@[irreducible] def t2__law_bad_parts : Sms := (.cons (.asg (.nm 1) (.bin .Add (.var 1) (.lst (.cons (.tup (.cons (.tup (.cons (.int 0) (.cons (.tup (.cons (.int 1) .nil)) .nil))) .nil)) (.cons .non (.cons (.tup (.cons (.tup (.cons (.tup (.cons (.int 1) .nil)) (.cons .non .nil))) .nil)) (.cons (.tup (.cons (.tup (.cons (.tup (.cons (.int 1) .nil)) (.cons (.int 2) .nil))) (.cons (.tup (.cons (.tup (.cons (.bl false) .nil)) (.cons (.int 1) .nil))) .nil))) (.cons (.tup (.cons (.tup (.cons (.int 3) .nil)) (.cons (.int 0) .nil))) (.cons (.str "a") .nil))))))))) t1__law_bad_parts)
@[irreducible] def b__law_bad_parts : Sms := (.cons (.asg (.nm 1) (.lst (.cons (.lst (.cons (.tup (.cons (.tup (.cons (.int 1) .nil)) (.cons (.int 0) .nil))) .nil)) (.cons (.tup (.cons (.tup (.cons (.tup (.cons (.int 1) .nil)) (.cons (.neg (.int 1)) .nil))) .nil)) (.cons (.tup (.cons (.tup (.cons (.tup (.cons (.int 1) .nil)) (.cons (.bl true) .nil))) .nil)) (.cons (.tup (.cons (.tup (.cons (.lst (.cons (.int 1) .nil)) (.cons (.int 0) .nil))) .nil)) (.cons (.tup (.cons (.lst (.cons (.tup (.cons (.int 1) .nil)) (.cons (.int 0) .nil))) .nil)) (.cons (.tup (.cons (.tup (.cons (.tup (.cons (.int 1) .nil)) .nil)) .nil)) (.cons (.tup (.cons (.tup (.cons (.tup (.cons (.int 1) .nil)) (.cons (.int 0) (.cons (.int 0) .nil)))) .nil)) .nil))))))))) t2__law_bad_parts)
-- _law_bad_parts: slots [(0, '_law_at'), (1, '_law_rows')]; calls []; cells []
abbrev s__law_bad_points : Stmt := top 42
def n__law_bad_points : List Str := ["_law_at", "_law_rows"]
def p__law_bad_points : List Str := ["_law_at"]
@[irreducible] def t1__law_bad_points : Sms := (.cons (.ret (.ix (.var 1) (.var 0))) .nil)
@[irreducible] def t2__law_bad_points : Sms := (.cons (.asg (.nm 1) (.bin .Add (.var 1) (.lst (.cons (.tup (.cons (.tup (.cons (.int 0) (.cons (.int 1048576) .nil))) .nil)) (.cons (.tup (.cons (.tup (.cons (.neg (.int 1048576)) (.cons (.int 0) .nil))) .nil)) (.cons .non (.cons (.tup (.cons (.lst (.cons (.int 0) (.cons (.int 1) .nil))) .nil)) (.cons (.tup (.cons (.tup (.cons (.int 0) (.cons (.str "1") .nil))) .nil)) (.cons (.int 4) (.cons (.tup (.cons (.tup (.cons (.int 0) (.cons (.int 0) .nil))) (.cons (.tup (.cons (.int 2) (.cons (.int 0) .nil))) (.cons (.tup (.cons (.int 1) (.cons (.int 0) .nil))) .nil)))) .nil)))))))))) t1__law_bad_points)
@[irreducible] def b__law_bad_points : Sms := (.cons (.asg (.nm 1) (.lst (.cons (.tup .nil) (.cons (.lst (.cons (.tup (.cons (.int 0) (.cons (.int 1) .nil))) .nil)) (.cons (.tup (.cons (.tup (.cons (.int 0) (.cons (.int 1) .nil))) (.cons (.tup (.cons (.int 0) (.cons (.int 2) .nil))) .nil))) (.cons (.tup (.cons (.tup (.cons (.int 1) (.cons (.int 0) .nil))) (.cons (.tup (.cons (.int 0) (.cons (.int 0) .nil))) .nil))) (.cons (.tup (.cons (.tup (.cons (.bl true) (.cons (.int 0) .nil))) .nil)) (.cons (.tup (.cons (.tup (.cons (.int 0) (.cons (.bl true) .nil))) .nil)) (.cons (.tup (.cons (.tup (.cons (.int 0) .nil)) .nil)) (.cons (.tup (.cons (.tup (.cons (.int 0) (.cons (.int 1) (.cons (.int 2) .nil)))) .nil)) .nil)))))))))) t2__law_bad_points)
-- _law_bad_points: slots [(0, '_law_at'), (1, '_law_rows')]; calls []; cells []
abbrev s__law_refused : Stmt := top 43
def n__law_refused : List Str := ["_law_deed_here", "e"]
def p__law_refused : List Str := ["_law_deed_here"]
@[irreducible] def t1__law_refused : Sms := (.cons (.ret (.tup (.cons (.str "none") (.cons (.int 0) .nil)))) .nil)
@[irreducible] def b__law_refused : Sms := (.cons (.tryAs (.cons (.expr (.call 0 (.cons (.var 0) .nil))) .nil) 0 1 (.tup (.cons (.fld "word") (.cons (.fld "at") .nil)))) t1__law_refused)
-- _law_refused: slots [(0, '_law_deed_here'), (1, 'e')]; calls ['_law_told']; cells []
abbrev s__law_bad_cut : Stmt := top 44
def n__law_bad_cut : List Str := ["_law_purse_here", "_law_one", "_law_low", "_law_lows", "_law_highs", "_law_high", "_law_which"]
def p__law_bad_cut : List Str := ["_law_purse_here", "_law_one"]
@[irreducible] def t1__law_bad_cut : Sms := (.cons (.ret (.tup (.cons (.tup (.cons (.str "cut") (.cons (.var 1) (.cons (.var 2) (.cons (.var 5) .nil))))) (.cons (.str "high") .nil)))) .nil)
@[irreducible] def t2__law_bad_cut : Sms := (.cons (.ife (.cmp .Eq (.var 6) (.int 4)) (.cons (.ret (.tup (.cons (.tup (.cons (.str "cut") (.cons (.var 1) (.cons (.bin .Add (.blt .len (.cons (.var 1) .nil)) (.int 1)) (.cons (.bin .Add (.blt .len (.cons (.var 1) .nil)) (.int 1)) .nil))))) (.cons (.str "high") .nil)))) .nil) .nil) t1__law_bad_cut)
@[irreducible] def t3__law_bad_cut : Sms := (.cons (.ife (.cmp .Eq (.var 6) (.int 3)) (.cons (.ret (.tup (.cons (.tup (.cons (.str "cut") (.cons (.var 1) (.cons (.ix (.var 3) (.call 0 (.cons (.var 0) (.cons (.int 7) .nil)))) (.cons (.var 5) .nil))))) (.cons (.str "low") .nil)))) .nil) .nil) t2__law_bad_cut)
@[irreducible] def t4__law_bad_cut : Sms := (.cons (.ife (.cmp .Eq (.var 6) (.int 2)) (.cons (.ret (.tup (.cons (.tup (.cons (.str "cut") (.cons (.var 1) (.cons (.ix (.var 3) (.call 0 (.cons (.var 0) (.cons (.int 7) .nil)))) (.cons (.var 2) .nil))))) (.cons (.str "low") .nil)))) .nil) .nil) t3__law_bad_cut)
@[irreducible] def t5__law_bad_cut : Sms := (.cons (.ife (.cmp .Eq (.var 6) (.int 1)) (.cons (.ret (.tup (.cons (.tup (.cons (.str "cut") (.cons (.call 1 (.cons (.call 0 (.cons (.var 0) (.cons (.int 11) .nil))) .nil)) (.cons (.ix (.var 3) (.call 0 (.cons (.var 0) (.cons (.int 7) .nil)))) (.cons (.var 5) .nil))))) (.cons (.str "sound") .nil)))) .nil) .nil) t4__law_bad_cut)
@[irreducible] def t6__law_bad_cut : Sms := (.cons (.ife (.cmp .Eq (.var 6) (.int 0)) (.cons (.ret (.tup (.cons (.tup (.cons (.str "cut") (.cons (.call 1 (.cons (.call 0 (.cons (.var 0) (.cons (.int 11) .nil))) .nil)) (.cons (.var 2) (.cons (.var 2) .nil))))) (.cons (.str "sound") .nil)))) .nil) .nil) t5__law_bad_cut)
@[irreducible] def t7__law_bad_cut : Sms := (.cons (.asg (.nm 6) (.call 0 (.cons (.var 0) (.cons (.int 6) .nil)))) t6__law_bad_cut)
@[irreducible] def t8__law_bad_cut : Sms := (.cons (.asg (.nm 5) (.ix (.var 4) (.call 0 (.cons (.var 0) (.cons (.int 9) .nil))))) t7__law_bad_cut)
@[irreducible] def t9__law_bad_cut : Sms := (.cons (.asg (.nm 4) (.lst (.cons (.bin .Sub (.var 2) (.int 1)) (.cons (.bin .Add (.blt .len (.cons (.var 1) .nil)) (.int 1)) (.cons (.bl true) (.cons .non (.cons (.str "1") (.cons (.tup (.cons (.var 2) .nil)) (.cons (.bin .Add (.blt .len (.cons (.var 1) .nil)) (.bin .Pow (.int 10) (.int 30))) (.cons (.neg (.int 1)) (.cons (.bl false) .nil))))))))))) t8__law_bad_cut)
@[irreducible] def t10__law_bad_cut : Sms := (.cons (.asg (.nm 3) (.lst (.cons (.neg (.int 1)) (.cons (.bl true) (.cons .non (.cons (.str "0") (.cons (.tup (.cons (.int 0) .nil)) (.cons (.bl false) (.cons (.neg (.bin .Pow (.int 10) (.int 30))) .nil))))))))) t9__law_bad_cut)
@[irreducible] def b__law_bad_cut : Sms := (.cons (.asg (.nm 2) (.call 0 (.cons (.var 0) (.cons (.bin .Add (.blt .len (.cons (.var 1) .nil)) (.int 1)) .nil)))) t10__law_bad_cut)
-- _law_bad_cut: slots [(0, '_law_purse_here'), (1, '_law_one'), (2, '_law_low'), (3, '_law_lows'), (4, '_law_highs'), (5, '_law_high'), (6, '_law_which')]; calls ['_law_pick', '_law_bad_sound']; cells []
abbrev s__law_bad_deeds : Stmt := top 45
def n__law_bad_deeds : List Str := ["_law_purse_here", "_law_one", "_law_rows", "_law_bad"]
def p__law_bad_deeds : List Str := ["_law_purse_here", "_law_one"]
@[irreducible] def t1__law_bad_deeds : Sms := (.cons (.ret (.var 2)) .nil)
@[irreducible] def t2__law_bad_deeds : Sms := (.cons (.expr (.mth .append (.var 2) (.cons (.tup (.cons (.tup (.cons (.str "back") (.cons (.call 5 (.cons (.call 2 (.cons (.var 0) (.cons (.int 11) .nil))) .nil)) .nil))) (.cons (.str "sound") .nil))) .nil))) t1__law_bad_deeds)
@[irreducible] def t3__law_bad_deeds : Sms := (.cons (.ife (.cmp .Eq (.call 2 (.cons (.var 0) (.cons (.int 2) .nil))) (.int 0)) (.cons (.expr (.mth .append (.var 2) (.cons (.tup (.cons (.tup (.cons (.str "faded") (.cons (.call 5 (.cons (.call 2 (.cons (.var 0) (.cons (.int 11) .nil))) .nil)) (.cons (.var 3) .nil)))) (.cons (.str "sound") .nil))) .nil))) .nil) (.cons (.expr (.mth .append (.var 2) (.cons (.tup (.cons (.tup (.cons (.str "faded") (.cons (.call 5 (.cons (.call 2 (.cons (.var 0) (.cons (.int 11) .nil))) .nil)) (.cons (.tup (.cons (.tup (.cons (.int 0) (.cons (.int 4096) .nil))) .nil)) .nil)))) (.cons (.str "sound") .nil))) .nil))) .nil)) t2__law_bad_deeds)
@[irreducible] def t4__law_bad_deeds : Sms := (.cons (.expr (.mth .append (.var 2) (.cons (.tup (.cons (.tup (.cons (.str "faded") (.cons (.var 1) (.cons (.var 3) .nil)))) (.cons (.str "points") .nil))) .nil))) t3__law_bad_deeds)
@[irreducible] def t5__law_bad_deeds : Sms := (.cons (.asg (.nm 3) (.call 4 (.cons (.call 2 (.cons (.var 0) (.cons (.int 15) .nil))) .nil))) t4__law_bad_deeds)
@[irreducible] def t6__law_bad_deeds : Sms := (.cons (.expr (.mth .append (.var 2) (.cons (.tup (.cons (.tup (.cons (.str "mixed") (.cons (.call 3 (.cons (.call 2 (.cons (.var 0) (.cons (.int 13) .nil))) .nil)) .nil))) (.cons (.str "parts") .nil))) .nil))) t5__law_bad_deeds)
@[irreducible] def t7__law_bad_deeds : Sms := (.cons (.expr (.mth .append (.var 2) (.cons (.tup (.cons (.tup (.cons (.str "joined") (.cons (.call 1 (.cons (.call 2 (.cons (.var 0) (.cons (.int 9) .nil))) .nil)) .nil))) (.cons (.str "sounds") .nil))) .nil))) t6__law_bad_deeds)
@[irreducible] def b__law_bad_deeds : Sms := (.cons (.asg (.nm 2) (.lst (.cons (.call 0 (.cons (.var 0) (.cons (.var 1) .nil))) .nil))) t7__law_bad_deeds)
-- _law_bad_deeds: slots [(0, '_law_purse_here'), (1, '_law_one'), (2, '_law_rows'), (3, '_law_bad')]; calls ['_law_bad_cut', '_law_bad_joined', '_law_pick', '_law_bad_parts', '_law_bad_points', '_law_bad_sound']; cells []
abbrev s_law : Stmt := top 46
def n_law : List Str := ["_law_script", "_law_purse_here", "_law_shelf", "_law_k", "_law_first", "_law_due_here", "_law_deed_here", "_law_own", "_law_told_here", "_law_word"]
def p_law : List Str := ["_law_script"]
@[irreducible] def t1_law : Sms := (.cons (.asg (.nm 5) (.var 7)) .nil)
@[irreducible] def t2_law : Sms := (.cons (.ife (.cmp .LtE (.blt .len (.cons (.var 7) .nil)) (.int 90)) (.cons (.expr (.mth .append (.var 2) (.cons (.var 8) .nil))) .nil) .nil) .nil)
@[irreducible] def t3_law : Sms := (.cons (.ife (.cmp .Is (.var 4) .non) (.cons (.asg (.nm 4) (.var 6)) t1_law) .nil) t2_law)
@[irreducible] def t4_law : Sms := (.cons (.ife (.not (.call 6 (.cons (.var 8) (.cons (.var 7) .nil)))) (.cons (.ret (.bl false)) .nil) .nil) t3_law)
@[irreducible] def t5_law : Sms := (.cons (.asg (.nm 8) (.call 5 (.cons (.var 6) .nil))) t4_law)
@[irreducible] def t6_law : Sms := (.cons (.asg (.nm 7) (.call 4 (.cons (.var 6) .nil))) t5_law)
@[irreducible] def l1_law : Sms := (.cons (.asg (.nm 6) (.call 3 (.cons (.var 1) (.cons (.var 2) .nil)))) t6_law)
@[irreducible] def t7_law : Sms := (.cons (.ife (.or (.not (.blt .isi (.cons (.ix (.var 8) (.int 0)) (.cons (.ty "str") .nil)))) (.or (.cmp .NotEq (.ix (.var 8) (.int 0)) (.var 9)) (.or (.cmp .NotEq (.ix (.var 8) (.int 1)) (.neg (.int 1))) (.blt .isi (.cons (.ix (.var 8) (.int 1)) (.cons (.ty "bool") .nil)))))) (.cons (.ret (.bl false)) .nil) .nil) .nil)
@[irreducible] def l2_law : Sms := (.cons (.asg (.nm 8) (.call 8 (.cons (.var 6) .nil))) t7_law)
@[irreducible] def t8_law : Sms := (.cons (.ret (.call 6 (.cons (.call 5 (.cons (.var 4) .nil)) (.cons (.var 5) .nil)))) .nil)
@[irreducible] def t9_law : Sms := (.cons (.for_ (.tup (.cons (.nm 6) (.cons (.nm 9) .nil))) (.val (.call 7 (.cons (.var 1) (.cons (.ix (.var 2) (.int 0)) .nil)))) l2_law) t8_law)
@[irreducible] def t10_law : Sms := (.cons (.for_ (.nm 3) (.rng1 (.bin .Add (.int 3) (.call 1 (.cons (.var 1) (.cons (.int 6) .nil))))) l1_law) t9_law)
@[irreducible] def t11_law : Sms := (.cons (.asg (.nm 5) (.tup .nil)) t10_law)
@[irreducible] def t12_law : Sms := (.cons (.asg (.nm 4) .non) t11_law)
@[irreducible] def t13_law : Sms := (.cons (.setLc 2 (.call 2 (.cons (.var 1) .nil)) (.nm 3) (.rng1 (.bin .Add (.int 2) (.call 1 (.cons (.var 1) (.cons (.int 3) .nil))))) .no) t12_law)
@[irreducible] def b_law : Sms := (.cons (.asg (.nm 1) (.call 0 (.cons (.var 0) .nil))) t13_law)
-- law: slots [(0, '_law_script'), (1, '_law_purse_here'), (2, '_law_shelf'), (3, '_law_k'), (4, '_law_first'), (5, '_law_due_here'), (6, '_law_deed_here'), (7, '_law_own'), (8, '_law_told_here'), (9, '_law_word')]; calls ['_law_purse', '_law_pick', '_law_sound', '_law_deed', '_law_due', '_law_told', '_law_is_sound', '_law_bad_deeds', '_law_refused']; cells ['_law_purse_here']

theorem c_is_integer : chkSs n_is_integer (defScope s_is_integer) (tabOf (([] : List Str).map fun (x : Str) => (x, fun _ _ _ _ => False)) [("TOP", .int 1048575), ("POINTS_MOST", .int 1048575)] xcs sub) false b_is_integer (defBody s_is_integer) = true := by decide +kernel
theorem c_is_number : chkSs n_is_number (defScope s_is_number) (tabOf ((["is_integer"] : List Str).map fun (x : Str) => (x, fun _ _ _ _ => False)) [("TOP", .int 1048575), ("POINTS_MOST", .int 1048575)] xcs sub) false b_is_number (defBody s_is_number) = true := by decide +kernel
theorem c_is_worth : chkSs n_is_worth (defScope s_is_worth) (tabOf ((["is_integer"] : List Str).map fun (x : Str) => (x, fun _ _ _ _ => False)) [("TOP", .int 1048575), ("POINTS_MOST", .int 1048575)] xcs sub) false b_is_worth (defBody s_is_worth) = true := by decide +kernel
theorem c_is_sound : chkSs n_is_sound (defScope s_is_sound) (tabOf ((["is_worth"] : List Str).map fun (x : Str) => (x, fun _ _ _ _ => False)) [("TOP", .int 1048575), ("POINTS_MOST", .int 1048575)] xcs sub) false b_is_sound (defBody s_is_sound) = true := by decide +kernel
theorem c_is_mode : chkSs n_is_mode (defScope s_is_mode) (tabOf (([] : List Str).map fun (x : Str) => (x, fun _ _ _ _ => False)) [("TOP", .int 1048575), ("POINTS_MOST", .int 1048575)] xcs sub) false b_is_mode (defBody s_is_mode) = true := by decide +kernel
theorem c_is_points : chkSs n_is_points (defScope s_is_points) (tabOf ((["is_worth"] : List Str).map fun (x : Str) => (x, fun _ _ _ _ => False)) [("TOP", .int 1048575), ("POINTS_MOST", .int 1048575)] xcs sub) false b_is_points (defBody s_is_points) = true := by decide +kernel
theorem c_curve_at : chkSs n_curve_at (defScope s_curve_at) (tabOf ((["is_integer"] : List Str).map fun (x : Str) => (x, fun _ _ _ _ => False)) [("TOP", .int 1048575), ("POINTS_MOST", .int 1048575)] xcs sub) false b_curve_at (defBody s_curve_at) = true := by decide +kernel
theorem c_clip : chkSs n_clip (defScope s_clip) (tabOf ((["is_integer"] : List Str).map fun (x : Str) => (x, fun _ _ _ _ => False)) [("TOP", .int 1048575), ("POINTS_MOST", .int 1048575)] xcs sub) false b_clip (defBody s_clip) = true := by decide +kernel
theorem c_turned : chkSs n_turned (defScope s_turned) (tabOf ((["is_integer", "is_mode"] : List Str).map fun (x : Str) => (x, fun _ _ _ _ => False)) [("TOP", .int 1048575), ("POINTS_MOST", .int 1048575)] xcs sub) false b_turned (defBody s_turned) = true := by decide +kernel
theorem c_cut : chkSs n_cut (defScope s_cut) (tabOf ((["is_sound", "is_number"] : List Str).map fun (x : Str) => (x, fun _ _ _ _ => False)) [("TOP", .int 1048575), ("POINTS_MOST", .int 1048575)] xcs sub) false b_cut (defBody s_cut) = true := by decide +kernel
theorem c_joined : chkSs n_joined (defScope s_joined) (tabOf ((["is_sound"] : List Str).map fun (x : Str) => (x, fun _ _ _ _ => False)) [("TOP", .int 1048575), ("POINTS_MOST", .int 1048575)] xcs sub) false b_joined (defBody s_joined) = true := by decide +kernel
theorem c__is_sound_part : chkSs n__is_sound_part (defScope s__is_sound_part) (tabOf ((["is_number", "is_sound"] : List Str).map fun (x : Str) => (x, fun _ _ _ _ => False)) [("TOP", .int 1048575), ("POINTS_MOST", .int 1048575)] xcs sub) false b__is_sound_part (defBody s__is_sound_part) = true := by decide +kernel
theorem c_mixed : chkSs n_mixed (defScope s_mixed) (tabOf ((["_is_sound_part", "clip"] : List Str).map fun (x : Str) => (x, fun _ _ _ _ => False)) [("TOP", .int 1048575), ("POINTS_MOST", .int 1048575)] xcs sub) false b_mixed (defBody s_mixed) = true := by decide +kernel
theorem c_faded : chkSs n_faded (defScope s_faded) (tabOf ((["is_sound", "is_points", "curve_at", "clip", "turned"] : List Str).map fun (x : Str) => (x, fun _ _ _ _ => False)) [("TOP", .int 1048575), ("POINTS_MOST", .int 1048575)] xcs sub) false b_faded (defBody s_faded) = true := by decide +kernel
theorem c_turned_back : chkSs n_turned_back (defScope s_turned_back) (tabOf ((["is_sound"] : List Str).map fun (x : Str) => (x, fun _ _ _ _ => False)) [("TOP", .int 1048575), ("POINTS_MOST", .int 1048575)] xcs sub) false b_turned_back (defBody s_turned_back) = true := by decide +kernel
theorem c__law_purse : chkSs n__law_purse (defScope s__law_purse) (tabOf (([] : List Str).map fun (x : Str) => (x, fun _ _ _ _ => False)) [("TOP", .int 1048575), ("POINTS_MOST", .int 1048575)] xcs sub) false b__law_purse (defBody s__law_purse) = true := by decide +kernel
theorem c__law_pick : chkSs n__law_pick (defScope s__law_pick) (tabOf (([] : List Str).map fun (x : Str) => (x, fun _ _ _ _ => False)) [("TOP", .int 1048575), ("POINTS_MOST", .int 1048575)] xcs sub) false b__law_pick (defBody s__law_pick) = true := by decide +kernel
theorem c__law_worth : chkSs n__law_worth (defScope s__law_worth) (tabOf ((["_law_pick"] : List Str).map fun (x : Str) => (x, fun _ _ _ _ => False)) [("TOP", .int 1048575), ("POINTS_MOST", .int 1048575)] xcs sub) false b__law_worth (defBody s__law_worth) = true := by decide +kernel
theorem c__law_sound : chkSs n__law_sound (defScope s__law_sound) (tabOf ((["_law_pick", "_law_worth"] : List Str).map fun (x : Str) => (x, fun _ _ _ _ => False)) [("TOP", .int 1048575), ("POINTS_MOST", .int 1048575)] xcs sub) false b__law_sound (defBody s__law_sound) = true := by decide +kernel
theorem c__law_points : chkSs n__law_points (defScope s__law_points) (tabOf ((["_law_pick", "_law_worth"] : List Str).map fun (x : Str) => (x, fun _ _ _ _ => False)) [("TOP", .int 1048575), ("POINTS_MOST", .int 1048575)] xcs sub) false b__law_points (defBody s__law_points) = true := by decide +kernel
theorem c__law_curve : chkSs n__law_curve (defScope s__law_curve) (tabOf (([] : List Str).map fun (x : Str) => (x, fun _ _ _ _ => False)) [("TOP", .int 1048575), ("POINTS_MOST", .int 1048575)] xcs sub) false b__law_curve (defBody s__law_curve) = true := by decide +kernel
theorem c__law_middle : chkSs n__law_middle (defScope s__law_middle) (tabOf (([] : List Str).map fun (x : Str) => (x, fun _ _ _ _ => False)) [("TOP", .int 1048575), ("POINTS_MOST", .int 1048575)] xcs sub) false b__law_middle (defBody s__law_middle) = true := by decide +kernel
theorem c__law_faded : chkSs n__law_faded (defScope s__law_faded) (tabOf ((["_law_middle"] : List Str).map fun (x : Str) => (x, fun _ _ _ _ => False)) [("TOP", .int 1048575), ("POINTS_MOST", .int 1048575)] xcs sub) false b__law_faded (defBody s__law_faded) = true := by decide +kernel
theorem c__law_mixed : chkSs n__law_mixed (defScope s__law_mixed) (tabOf ((["_law_middle"] : List Str).map fun (x : Str) => (x, fun _ _ _ _ => False)) [("TOP", .int 1048575), ("POINTS_MOST", .int 1048575)] xcs sub) false b__law_mixed (defBody s__law_mixed) = true := by decide +kernel
theorem c__law_due : chkSs n__law_due (defScope s__law_due) (tabOf ((["_law_mixed", "_law_faded", "_law_curve"] : List Str).map fun (x : Str) => (x, fun _ _ _ _ => False)) [("TOP", .int 1048575), ("POINTS_MOST", .int 1048575)] xcs sub) false b__law_due (defBody s__law_due) = true := by decide +kernel
theorem c__law_told : chkSs n__law_told (defScope s__law_told) (tabOf ((["cut", "joined", "mixed", "faded", "turned_back"] : List Str).map fun (x : Str) => (x, fun _ _ _ _ => False)) [("TOP", .int 1048575), ("POINTS_MOST", .int 1048575)] xcs sub) false b__law_told (defBody s__law_told) = true := by decide +kernel
theorem c__law_deed : chkSs n__law_deed (defScope s__law_deed) (tabOf ((["_law_pick", "_law_points"] : List Str).map fun (x : Str) => (x, fun _ _ _ _ => False)) [("TOP", .int 1048575), ("POINTS_MOST", .int 1048575)] xcs sub) false b__law_deed (defBody s__law_deed) = true := by decide +kernel
theorem c__law_is_sound : chkSs n__law_is_sound (defScope s__law_is_sound) (tabOf (([] : List Str).map fun (x : Str) => (x, fun _ _ _ _ => False)) [("TOP", .int 1048575), ("POINTS_MOST", .int 1048575)] xcs sub) false b__law_is_sound (defBody s__law_is_sound) = true := by decide +kernel
theorem c__law_bad_sound : chkSs n__law_bad_sound (defScope s__law_bad_sound) (tabOf (([] : List Str).map fun (x : Str) => (x, fun _ _ _ _ => False)) [("TOP", .int 1048575), ("POINTS_MOST", .int 1048575)] xcs sub) false b__law_bad_sound (defBody s__law_bad_sound) = true := by decide +kernel
theorem c__law_bad_joined : chkSs n__law_bad_joined (defScope s__law_bad_joined) (tabOf (([] : List Str).map fun (x : Str) => (x, fun _ _ _ _ => False)) [("TOP", .int 1048575), ("POINTS_MOST", .int 1048575)] xcs sub) false b__law_bad_joined (defBody s__law_bad_joined) = true := by decide +kernel
theorem c__law_bad_parts : chkSs n__law_bad_parts (defScope s__law_bad_parts) (tabOf (([] : List Str).map fun (x : Str) => (x, fun _ _ _ _ => False)) [("TOP", .int 1048575), ("POINTS_MOST", .int 1048575)] xcs sub) false b__law_bad_parts (defBody s__law_bad_parts) = true := by decide +kernel
theorem c__law_bad_points : chkSs n__law_bad_points (defScope s__law_bad_points) (tabOf (([] : List Str).map fun (x : Str) => (x, fun _ _ _ _ => False)) [("TOP", .int 1048575), ("POINTS_MOST", .int 1048575)] xcs sub) false b__law_bad_points (defBody s__law_bad_points) = true := by decide +kernel
theorem c__law_refused : chkSs n__law_refused (defScope s__law_refused) (tabOf ((["_law_told"] : List Str).map fun (x : Str) => (x, fun _ _ _ _ => False)) [("TOP", .int 1048575), ("POINTS_MOST", .int 1048575)] xcs sub) false b__law_refused (defBody s__law_refused) = true := by decide +kernel
theorem c__law_bad_cut : chkSs n__law_bad_cut (defScope s__law_bad_cut) (tabOf ((["_law_pick", "_law_bad_sound"] : List Str).map fun (x : Str) => (x, fun _ _ _ _ => False)) [("TOP", .int 1048575), ("POINTS_MOST", .int 1048575)] xcs sub) false b__law_bad_cut (defBody s__law_bad_cut) = true := by decide +kernel
theorem c__law_bad_deeds : chkSs n__law_bad_deeds (defScope s__law_bad_deeds) (tabOf ((["_law_bad_cut", "_law_bad_joined", "_law_pick", "_law_bad_parts", "_law_bad_points", "_law_bad_sound"] : List Str).map fun (x : Str) => (x, fun _ _ _ _ => False)) [("TOP", .int 1048575), ("POINTS_MOST", .int 1048575)] xcs sub) false b__law_bad_deeds (defBody s__law_bad_deeds) = true := by decide +kernel
theorem c_law : chkSs n_law (defScope s_law) (tabOf ((["_law_purse", "_law_pick", "_law_sound", "_law_deed", "_law_due", "_law_told", "_law_is_sound", "_law_bad_deeds", "_law_refused"] : List Str).map fun (x : Str) => (x, fun _ _ _ _ => False)) [("TOP", .int 1048575), ("POINTS_MOST", .int 1048575)] xcs sub) false b_law (defBody s_law) = true := by decide +kernel
end K79
set_option Elab.async false
set_option linter.all false
set_option autoImplicit false
set_option maxRecDepth 100000
set_option maxHeartbeats 4000000
namespace K79
open PySem PySem.Spec L2 UL
def gls : List (Str × U) := [("TOP", .int 1048575), ("POINTS_MOST", .int 64)]
abbrev TB (cl : List (Str × USp)) : Tab2 := tabOf cl gls xcs sub
abbrev GM (cl : List (Str × USp)) : Gam := gam cl gls
def isW : U → Bool
  | .int i => decide (-1048575 ≤ i) && decide (i ≤ 1048575)
  | _ => false
def isS : U → Bool
  | .tup us => us.all isW
  | _ => false
def okM : U → Bool
  | .int i => decide (1 ≤ i) && decide (i ≤ 64)
  | _ => false
def okS (G : UH) (u : U) : Prop := tyS G u ∧ ∀ ws, u = .tup ws → ∀ x ∈ ws, tyS G x
def xnu (w : Str) : UXn := (0, [.int (-1), .str w])
def tupL : U → List U
  | .tup ws => ws
  | _ => []
def intV : U → Int
  | .int i => i
  | _ => 0
/-! ### is_integer -/
def sp_is_integer : USp := fun us G Q _ => ∃ u, us = [u] ∧ tyS G u ∧ Q (.bl (isI u)) G
def cl_is_integer : List (Str × USp) := []
theorem isI_k {u : U} : isI u = (if kI u = true then !kB u else kI u) := by cases u <;> rfl
theorem w_is_integer (us : List U) (G : UH) (Q : UK) (E : UXn → UH → Prop) (h : sp_is_integer us G Q E) : trSs (TB cl_is_integer) (GM cl_is_integer) b_is_integer (UD Q E) (startU n_is_integer us) G := by
  obtain ⟨u, rfl, ht, q⟩ := h
  simp only [trSs, trS, trE, trT, trX, pl, trA, trO, trC, trI, uBin_s, uUn_s, uVar_s, uC_s, getS, setS, uOp, uAdd, uSub, uMul, uDiv, uMod, uPow, uNeg, uCmp, uEqF, uLt, uLe, uGt, uGe, uIsF, isNonU, uTru, Blt.fn, uLen, uAbs, uMax2, uMin2, uInt, uIx, startU, gam_fn, gam_gl, tab_xcs, tab_sub, UD_nx, UD_rt, UD_bk, UD_ct, UD_ex, spAt, glAt, gls, seqOf, List.map_cons, List.map_nil, List.cons_append, List.nil_append, List.length_cons, List.length_nil, List.replicate, Nat.reduceAdd, Nat.reduceSub, Nat.zero_add, reduceIte, Bool.false_eq_true, Bool.true_eq_false, Bool.false_bne, Bool.true_bne, Bool.not_true, Bool.not_false, Bool.not_not, List.reverse_cons, List.reverse_nil, Option.map_some, Option.map_none, up_same, uTuple, uList, uSet, atI_zero, atI_one, ixN_20, ixN_zero, List.set_cons_zero, uPow, b_is_integer, n_is_integer]
  refine isi_int ht ?_
  simp only [trSs, trS, trE, trT, trX, pl, trA, trO, trC, trI, uBin_s, uUn_s, uVar_s, uC_s, getS, setS, uOp, uAdd, uSub, uMul, uDiv, uMod, uPow, uNeg, uCmp, uEqF, uLt, uLe, uGt, uGe, uIsF, isNonU, uTru, Blt.fn, uLen, uAbs, uMax2, uMin2, uInt, uIx, startU, gam_fn, gam_gl, tab_xcs, tab_sub, UD_nx, UD_rt, UD_bk, UD_ct, UD_ex, spAt, glAt, gls, seqOf, List.map_cons, List.map_nil, List.cons_append, List.nil_append, List.length_cons, List.length_nil, List.replicate, Nat.reduceAdd, Nat.reduceSub, Nat.zero_add, reduceIte, Bool.false_eq_true, Bool.true_eq_false, Bool.false_bne, Bool.true_bne, Bool.not_true, Bool.not_false, Bool.not_not, List.reverse_cons, List.reverse_nil, Option.map_some, Option.map_none, up_same, uTuple, uList, uSet, atI_zero, atI_one, ixN_20, ixN_zero, List.set_cons_zero, uPow]
  cases e : kI u with
  | false =>
    simp only [trSs, trS, trE, trT, trX, pl, trA, trO, trC, trI, uBin_s, uUn_s, uVar_s, uC_s, getS, setS, uOp, uAdd, uSub, uMul, uDiv, uMod, uPow, uNeg, uCmp, uEqF, uLt, uLe, uGt, uGe, uIsF, isNonU, uTru, Blt.fn, uLen, uAbs, uMax2, uMin2, uInt, uIx, startU, gam_fn, gam_gl, tab_xcs, tab_sub, UD_nx, UD_rt, UD_bk, UD_ct, UD_ex, spAt, glAt, gls, seqOf, List.map_cons, List.map_nil, List.cons_append, List.nil_append, List.length_cons, List.length_nil, List.replicate, Nat.reduceAdd, Nat.reduceSub, Nat.zero_add, reduceIte, Bool.false_eq_true, Bool.true_eq_false, Bool.false_bne, Bool.true_bne, Bool.not_true, Bool.not_false, Bool.not_not, List.reverse_cons, List.reverse_nil, Option.map_some, Option.map_none, up_same, uTuple, uList, uSet, atI_zero, atI_one, ixN_20, ixN_zero, List.set_cons_zero, uPow]
    refine fin.of ?_
    rw [isI_k, e] at q
    exact q
  | true =>
    simp only [trSs, trS, trE, trT, trX, pl, trA, trO, trC, trI, uBin_s, uUn_s, uVar_s, uC_s, getS, setS, uOp, uAdd, uSub, uMul, uDiv, uMod, uPow, uNeg, uCmp, uEqF, uLt, uLe, uGt, uGe, uIsF, isNonU, uTru, Blt.fn, uLen, uAbs, uMax2, uMin2, uInt, uIx, startU, gam_fn, gam_gl, tab_xcs, tab_sub, UD_nx, UD_rt, UD_bk, UD_ct, UD_ex, spAt, glAt, gls, seqOf, List.map_cons, List.map_nil, List.cons_append, List.nil_append, List.length_cons, List.length_nil, List.replicate, Nat.reduceAdd, Nat.reduceSub, Nat.zero_add, reduceIte, Bool.false_eq_true, Bool.true_eq_false, Bool.false_bne, Bool.true_bne, Bool.not_true, Bool.not_false, Bool.not_not, List.reverse_cons, List.reverse_nil, Option.map_some, Option.map_none, up_same, uTuple, uList, uSet, atI_zero, atI_one, ixN_20, ixN_zero, List.set_cons_zero, uPow]
    refine isi_bool ht ?_
    simp only [trSs, trS, trE, trT, trX, pl, trA, trO, trC, trI, uBin_s, uUn_s, uVar_s, uC_s, getS, setS, uOp, uAdd, uSub, uMul, uDiv, uMod, uPow, uNeg, uCmp, uEqF, uLt, uLe, uGt, uGe, uIsF, isNonU, uTru, Blt.fn, uLen, uAbs, uMax2, uMin2, uInt, uIx, startU, gam_fn, gam_gl, tab_xcs, tab_sub, UD_nx, UD_rt, UD_bk, UD_ct, UD_ex, spAt, glAt, gls, seqOf, List.map_cons, List.map_nil, List.cons_append, List.nil_append, List.length_cons, List.length_nil, List.replicate, Nat.reduceAdd, Nat.reduceSub, Nat.zero_add, reduceIte, Bool.false_eq_true, Bool.true_eq_false, Bool.false_bne, Bool.true_bne, Bool.not_true, Bool.not_false, Bool.not_not, List.reverse_cons, List.reverse_nil, Option.map_some, Option.map_none, up_same, uTuple, uList, uSet, atI_zero, atI_one, ixN_20, ixN_zero, List.set_cons_zero, uPow]
    refine fin.of ?_
    rw [isI_k, e] at q
    exact q
/-! ### is_worth -/
def sp_is_worth : USp := fun us G Q _ => ∃ u, us = [u] ∧ tyS G u ∧ Q (.bl (isW u)) G
def cl_is_worth : List (Str × USp) := [("is_integer", sp_is_integer)]
theorem w_is_worth (us : List U) (G : UH) (Q : UK) (E : UXn → UH → Prop) (h : sp_is_worth us G Q E) : trSs (TB cl_is_worth) (GM cl_is_worth) b_is_worth (UD Q E) (startU n_is_worth us) G := by
  obtain ⟨u, rfl, ht, q⟩ := h
  simp only [trSs, trS, trE, trT, trX, pl, trA, trO, trC, trI, uBin_s, uUn_s, uVar_s, uC_s, getS, setS, uOp, uAdd, uSub, uMul, uDiv, uMod, uPow, uNeg, uCmp, uEqF, uLt, uLe, uGt, uGe, uIsF, isNonU, uTru, Blt.fn, uLen, uAbs, uMax2, uMin2, uInt, uIx, startU, gam_fn, gam_gl, tab_xcs, tab_sub, UD_nx, UD_rt, UD_bk, UD_ct, UD_ex, spAt, glAt, gls, seqOf, List.map_cons, List.map_nil, List.cons_append, List.nil_append, List.length_cons, List.length_nil, List.replicate, Nat.reduceAdd, Nat.reduceSub, Nat.zero_add, reduceIte, Bool.false_eq_true, Bool.true_eq_false, Bool.false_bne, Bool.true_bne, Bool.not_true, Bool.not_false, Bool.not_not, List.reverse_cons, List.reverse_nil, Option.map_some, Option.map_none, up_same, uTuple, uList, uSet, atI_zero, atI_one, ixN_20, ixN_zero, List.set_cons_zero, uPow, b_is_worth, n_is_worth, cl_is_worth]
  refine ⟨u, rfl, ht, ?_⟩
  cases u with
  | int i =>
    simp only [trSs, trS, trE, trT, trX, pl, trA, trO, trC, trI, uBin_s, uUn_s, uVar_s, uC_s, getS, setS, uOp, uAdd, uSub, uMul, uDiv, uMod, uPow, uNeg, uCmp, uEqF, uLt, uLe, uGt, uGe, uIsF, isNonU, uTru, Blt.fn, uLen, uAbs, uMax2, uMin2, uInt, uIx, startU, gam_fn, gam_gl, tab_xcs, tab_sub, UD_nx, UD_rt, UD_bk, UD_ct, UD_ex, spAt, glAt, gls, seqOf, List.map_cons, List.map_nil, List.cons_append, List.nil_append, List.length_cons, List.length_nil, List.replicate, Nat.reduceAdd, Nat.reduceSub, Nat.zero_add, reduceIte, Bool.false_eq_true, Bool.true_eq_false, Bool.false_bne, Bool.true_bne, Bool.not_true, Bool.not_false, Bool.not_not, List.reverse_cons, List.reverse_nil, Option.map_some, Option.map_none, up_same, uTuple, uList, uSet, atI_zero, atI_one, ixN_20, ixN_zero, List.set_cons_zero, uPow, isI]
    by_cases h1 : (-1048575 : Int) ≤ i
    · simp only [trSs, trS, trE, trT, trX, pl, trA, trO, trC, trI, uBin_s, uUn_s, uVar_s, uC_s, getS, setS, uOp, uAdd, uSub, uMul, uDiv, uMod, uPow, uNeg, uCmp, uEqF, uLt, uLe, uGt, uGe, uIsF, isNonU, uTru, Blt.fn, uLen, uAbs, uMax2, uMin2, uInt, uIx, startU, gam_fn, gam_gl, tab_xcs, tab_sub, UD_nx, UD_rt, UD_bk, UD_ct, UD_ex, spAt, glAt, gls, seqOf, List.map_cons, List.map_nil, List.cons_append, List.nil_append, List.length_cons, List.length_nil, List.replicate, Nat.reduceAdd, Nat.reduceSub, Nat.zero_add, reduceIte, Bool.false_eq_true, Bool.true_eq_false, Bool.false_bne, Bool.true_bne, Bool.not_true, Bool.not_false, Bool.not_not, List.reverse_cons, List.reverse_nil, Option.map_some, Option.map_none, up_same, uTuple, uList, uSet, atI_zero, atI_one, ixN_20, ixN_zero, List.set_cons_zero, uPow, h1, decide_true]
      refine fin.of ?_
      simpa [isW, h1] using q
    · simp only [trSs, trS, trE, trT, trX, pl, trA, trO, trC, trI, uBin_s, uUn_s, uVar_s, uC_s, getS, setS, uOp, uAdd, uSub, uMul, uDiv, uMod, uPow, uNeg, uCmp, uEqF, uLt, uLe, uGt, uGe, uIsF, isNonU, uTru, Blt.fn, uLen, uAbs, uMax2, uMin2, uInt, uIx, startU, gam_fn, gam_gl, tab_xcs, tab_sub, UD_nx, UD_rt, UD_bk, UD_ct, UD_ex, spAt, glAt, gls, seqOf, List.map_cons, List.map_nil, List.cons_append, List.nil_append, List.length_cons, List.length_nil, List.replicate, Nat.reduceAdd, Nat.reduceSub, Nat.zero_add, reduceIte, Bool.false_eq_true, Bool.true_eq_false, Bool.false_bne, Bool.true_bne, Bool.not_true, Bool.not_false, Bool.not_not, List.reverse_cons, List.reverse_nil, Option.map_some, Option.map_none, up_same, uTuple, uList, uSet, atI_zero, atI_one, ixN_20, ixN_zero, List.set_cons_zero, uPow, h1, decide_false]
      refine fin.of ?_
      simpa [isW, h1] using q
  | _ =>
    simp only [trSs, trS, trE, trT, trX, pl, trA, trO, trC, trI, uBin_s, uUn_s, uVar_s, uC_s, getS, setS, uOp, uAdd, uSub, uMul, uDiv, uMod, uPow, uNeg, uCmp, uEqF, uLt, uLe, uGt, uGe, uIsF, isNonU, uTru, Blt.fn, uLen, uAbs, uMax2, uMin2, uInt, uIx, startU, gam_fn, gam_gl, tab_xcs, tab_sub, UD_nx, UD_rt, UD_bk, UD_ct, UD_ex, spAt, glAt, gls, seqOf, List.map_cons, List.map_nil, List.cons_append, List.nil_append, List.length_cons, List.length_nil, List.replicate, Nat.reduceAdd, Nat.reduceSub, Nat.zero_add, reduceIte, Bool.false_eq_true, Bool.true_eq_false, Bool.false_bne, Bool.true_bne, Bool.not_true, Bool.not_false, Bool.not_not, List.reverse_cons, List.reverse_nil, Option.map_some, Option.map_none, up_same, uTuple, uList, uSet, atI_zero, atI_one, ixN_20, ixN_zero, List.set_cons_zero, uPow, isI]
    exact fin.of q
/-! ### is_sound -/
def sp_is_sound : USp := fun us G Q _ => ∃ u, us = [u] ∧ okS G u ∧ Q (.bl (isS u)) G
def cl_is_sound : List (Str × USp) := [("is_worth", sp_is_worth)]
theorem l_is_sound {G : UH} {t : U} (D : UE) : ∀ (ws : List U) (o : Option U), (∀ x ∈ ws, tyS G x) → (ws.all isW = false → D.rt (.bl false) G) → (ws.all isW = true → ∀ o, D.nx [some t, o] G) → forU [] (trG (.nm 1)) (trSs (TB cl_is_sound) (GM cl_is_sound) l1_is_sound) D ws [some t, o] G
  | [], o, _, _, h => ⟨trivial, h rfl o⟩
  | w :: ws, o, ht, hf, hn => by
    refine ⟨trivial, ?_⟩
    generalize hT : forU _ _ _ D ws = T
    simp only [trSs, trS, trE, trT, trX, pl, trA, trO, trC, trI, uBin_s, uUn_s, uVar_s, uC_s, getS, setS, uOp, uAdd, uSub, uMul, uDiv, uMod, uPow, uNeg, uCmp, uEqF, uLt, uLe, uGt, uGe, uIsF, isNonU, uTru, Blt.fn, uLen, uAbs, uMax2, uMin2, uInt, uIx, startU, gam_fn, gam_gl, tab_xcs, tab_sub, UD_nx, UD_rt, UD_bk, UD_ct, UD_ex, spAt, glAt, gls, seqOf, List.map_cons, List.map_nil, List.cons_append, List.nil_append, List.length_cons, List.length_nil, List.replicate, Nat.reduceAdd, Nat.reduceSub, Nat.zero_add, reduceIte, Bool.false_eq_true, Bool.true_eq_false, Bool.false_bne, Bool.true_bne, Bool.not_true, Bool.not_false, Bool.not_not, List.reverse_cons, List.reverse_nil, Option.map_some, Option.map_none, up_same, uTuple, uList, uSet, atI_zero, atI_one, ixN_20, ixN_zero, List.set_cons_zero, uPow, trG, l1_is_sound, cl_is_sound]
    refine ⟨w, rfl, ht w List.mem_cons_self, ?_⟩
    cases e : isW w with
    | false =>
      simp only [trSs, trS, trE, trT, trX, pl, trA, trO, trC, trI, uBin_s, uUn_s, uVar_s, uC_s, getS, setS, uOp, uAdd, uSub, uMul, uDiv, uMod, uPow, uNeg, uCmp, uEqF, uLt, uLe, uGt, uGe, uIsF, isNonU, uTru, Blt.fn, uLen, uAbs, uMax2, uMin2, uInt, uIx, startU, gam_fn, gam_gl, tab_xcs, tab_sub, UD_nx, UD_rt, UD_bk, UD_ct, UD_ex, spAt, glAt, gls, seqOf, List.map_cons, List.map_nil, List.cons_append, List.nil_append, List.length_cons, List.length_nil, List.replicate, Nat.reduceAdd, Nat.reduceSub, Nat.zero_add, reduceIte, Bool.false_eq_true, Bool.true_eq_false, Bool.false_bne, Bool.true_bne, Bool.not_true, Bool.not_false, Bool.not_not, List.reverse_cons, List.reverse_nil, Option.map_some, Option.map_none, up_same, uTuple, uList, uSet, atI_zero, atI_one, ixN_20, ixN_zero, List.set_cons_zero, uPow]
      exact hf (by simp [e])
    | true =>
      simp only [trSs, trS, trE, trT, trX, pl, trA, trO, trC, trI, uBin_s, uUn_s, uVar_s, uC_s, getS, setS, uOp, uAdd, uSub, uMul, uDiv, uMod, uPow, uNeg, uCmp, uEqF, uLt, uLe, uGt, uGe, uIsF, isNonU, uTru, Blt.fn, uLen, uAbs, uMax2, uMin2, uInt, uIx, startU, gam_fn, gam_gl, tab_xcs, tab_sub, UD_nx, UD_rt, UD_bk, UD_ct, UD_ex, spAt, glAt, gls, seqOf, List.map_cons, List.map_nil, List.cons_append, List.nil_append, List.length_cons, List.length_nil, List.replicate, Nat.reduceAdd, Nat.reduceSub, Nat.zero_add, reduceIte, Bool.false_eq_true, Bool.true_eq_false, Bool.false_bne, Bool.true_bne, Bool.not_true, Bool.not_false, Bool.not_not, List.reverse_cons, List.reverse_nil, Option.map_some, Option.map_none, up_same, uTuple, uList, uSet, atI_zero, atI_one, ixN_20, ixN_zero, List.set_cons_zero, uPow]
      subst hT
      exact ⟨G, .refl G, l_is_sound D ws _ (fun x hx => ht x (List.mem_cons_of_mem _ hx)) (fun h => hf (by simp [e, h])) (fun h => hn (by simp [e, h]))⟩
theorem w_is_sound (us : List U) (G : UH) (Q : UK) (E : UXn → UH → Prop) (h : sp_is_sound us G Q E) : trSs (TB cl_is_sound) (GM cl_is_sound) b_is_sound (UD Q E) (startU n_is_sound us) G := by
  obtain ⟨u, rfl, ht, q⟩ := h
  simp only [trSs, trS, trE, trT, trX, pl, trA, trO, trC, trI, uBin_s, uUn_s, uVar_s, uC_s, getS, setS, uOp, uAdd, uSub, uMul, uDiv, uMod, uPow, uNeg, uCmp, uEqF, uLt, uLe, uGt, uGe, uIsF, isNonU, uTru, Blt.fn, uLen, uAbs, uMax2, uMin2, uInt, uIx, startU, gam_fn, gam_gl, tab_xcs, tab_sub, UD_nx, UD_rt, UD_bk, UD_ct, UD_ex, spAt, glAt, gls, seqOf, List.map_cons, List.map_nil, List.cons_append, List.nil_append, List.length_cons, List.length_nil, List.replicate, Nat.reduceAdd, Nat.reduceSub, Nat.zero_add, reduceIte, Bool.false_eq_true, Bool.true_eq_false, Bool.false_bne, Bool.true_bne, Bool.not_true, Bool.not_false, Bool.not_not, List.reverse_cons, List.reverse_nil, Option.map_some, Option.map_none, up_same, uTuple, uList, uSet, atI_zero, atI_one, ixN_20, ixN_zero, List.set_cons_zero, uPow, b_is_sound, n_is_sound]
  refine isi_tuple ht.1 ?_
  simp only [trSs, trS, trE, trT, trX, pl, trA, trO, trC, trI, uBin_s, uUn_s, uVar_s, uC_s, getS, setS, uOp, uAdd, uSub, uMul, uDiv, uMod, uPow, uNeg, uCmp, uEqF, uLt, uLe, uGt, uGe, uIsF, isNonU, uTru, Blt.fn, uLen, uAbs, uMax2, uMin2, uInt, uIx, startU, gam_fn, gam_gl, tab_xcs, tab_sub, UD_nx, UD_rt, UD_bk, UD_ct, UD_ex, spAt, glAt, gls, seqOf, List.map_cons, List.map_nil, List.cons_append, List.nil_append, List.length_cons, List.length_nil, List.replicate, Nat.reduceAdd, Nat.reduceSub, Nat.zero_add, reduceIte, Bool.false_eq_true, Bool.true_eq_false, Bool.false_bne, Bool.true_bne, Bool.not_true, Bool.not_false, Bool.not_not, List.reverse_cons, List.reverse_nil, Option.map_some, Option.map_none, up_same, uTuple, uList, uSet, atI_zero, atI_one, ixN_20, ixN_zero, List.set_cons_zero, uPow]
  cases u with
  | tup ws =>
    simp only [trSs, trS, trE, trT, trX, pl, trA, trO, trC, trI, uBin_s, uUn_s, uVar_s, uC_s, getS, setS, uOp, uAdd, uSub, uMul, uDiv, uMod, uPow, uNeg, uCmp, uEqF, uLt, uLe, uGt, uGe, uIsF, isNonU, uTru, Blt.fn, uLen, uAbs, uMax2, uMin2, uInt, uIx, startU, gam_fn, gam_gl, tab_xcs, tab_sub, UD_nx, UD_rt, UD_bk, UD_ct, UD_ex, spAt, glAt, gls, seqOf, List.map_cons, List.map_nil, List.cons_append, List.nil_append, List.length_cons, List.length_nil, List.replicate, Nat.reduceAdd, Nat.reduceSub, Nat.zero_add, reduceIte, Bool.false_eq_true, Bool.true_eq_false, Bool.false_bne, Bool.true_bne, Bool.not_true, Bool.not_false, Bool.not_not, List.reverse_cons, List.reverse_nil, Option.map_some, Option.map_none, up_same, uTuple, uList, uSet, atI_zero, atI_one, ixN_20, ixN_zero, List.set_cons_zero, uPow, kT, t2_is_sound]
    refine l_is_sound _ ws none (ht.2 ws rfl) (fun h => ?_) (fun h o => ?_)
    · refine fin.of ?_
      rw [show isS (.tup ws) = false from h] at q
      exact q
    · simp only [trSs, trS, trE, trT, trX, pl, trA, trO, trC, trI, uBin_s, uUn_s, uVar_s, uC_s, getS, setS, uOp, uAdd, uSub, uMul, uDiv, uMod, uPow, uNeg, uCmp, uEqF, uLt, uLe, uGt, uGe, uIsF, isNonU, uTru, Blt.fn, uLen, uAbs, uMax2, uMin2, uInt, uIx, startU, gam_fn, gam_gl, tab_xcs, tab_sub, UD_nx, UD_rt, UD_bk, UD_ct, UD_ex, spAt, glAt, gls, seqOf, List.map_cons, List.map_nil, List.cons_append, List.nil_append, List.length_cons, List.length_nil, List.replicate, Nat.reduceAdd, Nat.reduceSub, Nat.zero_add, reduceIte, Bool.false_eq_true, Bool.true_eq_false, Bool.false_bne, Bool.true_bne, Bool.not_true, Bool.not_false, Bool.not_not, List.reverse_cons, List.reverse_nil, Option.map_some, Option.map_none, up_same, uTuple, uList, uSet, atI_zero, atI_one, ixN_20, ixN_zero, List.set_cons_zero, uPow, t1_is_sound]
      refine fin.of ?_
      rw [show isS (.tup ws) = true from h] at q
      exact q
  | _ =>
    simp only [trSs, trS, trE, trT, trX, pl, trA, trO, trC, trI, uBin_s, uUn_s, uVar_s, uC_s, getS, setS, uOp, uAdd, uSub, uMul, uDiv, uMod, uPow, uNeg, uCmp, uEqF, uLt, uLe, uGt, uGe, uIsF, isNonU, uTru, Blt.fn, uLen, uAbs, uMax2, uMin2, uInt, uIx, startU, gam_fn, gam_gl, tab_xcs, tab_sub, UD_nx, UD_rt, UD_bk, UD_ct, UD_ex, spAt, glAt, gls, seqOf, List.map_cons, List.map_nil, List.cons_append, List.nil_append, List.length_cons, List.length_nil, List.replicate, Nat.reduceAdd, Nat.reduceSub, Nat.zero_add, reduceIte, Bool.false_eq_true, Bool.true_eq_false, Bool.false_bne, Bool.true_bne, Bool.not_true, Bool.not_false, Bool.not_not, List.reverse_cons, List.reverse_nil, Option.map_some, Option.map_none, up_same, uTuple, uList, uSet, atI_zero, atI_one, ixN_20, ixN_zero, List.set_cons_zero, uPow, kT]
    exact fin.of q
/-! ### is_number -/
def isN : U → Bool
  | .int i => decide (0 ≤ i)
  | _ => false
def sp_is_number : USp := fun us G Q _ => ∃ u, us = [u] ∧ tyS G u ∧ Q (.bl (isN u)) G
def cl_is_number : List (Str × USp) := [("is_integer", sp_is_integer)]
theorem w_is_number (us : List U) (G : UH) (Q : UK) (E : UXn → UH → Prop) (h : sp_is_number us G Q E) : trSs (TB cl_is_number) (GM cl_is_number) b_is_number (UD Q E) (startU n_is_number us) G := by
  obtain ⟨u, rfl, ht, q⟩ := h
  simp only [trSs, trS, trE, trT, trX, pl, trA, trO, trC, trI, uBin_s, uUn_s, uVar_s, uC_s, getS, setS, uOp, uAdd, uSub, uMul, uDiv, uMod, uPow, uNeg, uCmp, uEqF, uLt, uLe, uGt, uGe, uIsF, isNonU, uTru, Blt.fn, uLen, uAbs, uMax2, uMin2, uInt, uIx, startU, gam_fn, gam_gl, tab_xcs, tab_sub, UD_nx, UD_rt, UD_bk, UD_ct, UD_ex, spAt, glAt, gls, seqOf, List.map_cons, List.map_nil, List.cons_append, List.nil_append, List.length_cons, List.length_nil, List.replicate, Nat.reduceAdd, Nat.reduceSub, Nat.zero_add, reduceIte, Bool.false_eq_true, Bool.true_eq_false, Bool.false_bne, Bool.true_bne, Bool.not_true, Bool.not_false, Bool.not_not, List.reverse_cons, List.reverse_nil, Option.map_some, Option.map_none, up_same, uTuple, uList, uSet, atI_zero, atI_one, ixN_20, ixN_zero, List.set_cons_zero, uPow, b_is_number, n_is_number, cl_is_number]
  refine ⟨u, rfl, ht, ?_⟩
  cases u with
  | int i =>
    simp only [trSs, trS, trE, trT, trX, pl, trA, trO, trC, trI, uBin_s, uUn_s, uVar_s, uC_s, getS, setS, uOp, uAdd, uSub, uMul, uDiv, uMod, uPow, uNeg, uCmp, uEqF, uLt, uLe, uGt, uGe, uIsF, isNonU, uTru, Blt.fn, uLen, uAbs, uMax2, uMin2, uInt, uIx, startU, gam_fn, gam_gl, tab_xcs, tab_sub, UD_nx, UD_rt, UD_bk, UD_ct, UD_ex, spAt, glAt, gls, seqOf, List.map_cons, List.map_nil, List.cons_append, List.nil_append, List.length_cons, List.length_nil, List.replicate, Nat.reduceAdd, Nat.reduceSub, Nat.zero_add, reduceIte, Bool.false_eq_true, Bool.true_eq_false, Bool.false_bne, Bool.true_bne, Bool.not_true, Bool.not_false, Bool.not_not, List.reverse_cons, List.reverse_nil, Option.map_some, Option.map_none, up_same, uTuple, uList, uSet, atI_zero, atI_one, ixN_20, ixN_zero, List.set_cons_zero, uPow, isI]
    exact fin.of q
  | _ =>
    simp only [trSs, trS, trE, trT, trX, pl, trA, trO, trC, trI, uBin_s, uUn_s, uVar_s, uC_s, getS, setS, uOp, uAdd, uSub, uMul, uDiv, uMod, uPow, uNeg, uCmp, uEqF, uLt, uLe, uGt, uGe, uIsF, isNonU, uTru, Blt.fn, uLen, uAbs, uMax2, uMin2, uInt, uIx, startU, gam_fn, gam_gl, tab_xcs, tab_sub, UD_nx, UD_rt, UD_bk, UD_ct, UD_ex, spAt, glAt, gls, seqOf, List.map_cons, List.map_nil, List.cons_append, List.nil_append, List.length_cons, List.length_nil, List.replicate, Nat.reduceAdd, Nat.reduceSub, Nat.zero_add, reduceIte, Bool.false_eq_true, Bool.true_eq_false, Bool.false_bne, Bool.true_bne, Bool.not_true, Bool.not_false, Bool.not_not, List.reverse_cons, List.reverse_nil, Option.map_some, Option.map_none, up_same, uTuple, uList, uSet, atI_zero, atI_one, ixN_20, ixN_zero, List.set_cons_zero, uPow, isI]
    exact fin.of q
/-! ### is_mode -/
def sp_is_mode : USp := fun us G Q _ => us = [.str "near"] ∧ Q (.bl true) G
def cl_is_mode : List (Str × USp) := []
theorem w_is_mode (us : List U) (G : UH) (Q : UK) (E : UXn → UH → Prop) (h : sp_is_mode us G Q E) : trSs (TB cl_is_mode) (GM cl_is_mode) b_is_mode (UD Q E) (startU n_is_mode us) G := by
  obtain ⟨rfl, q⟩ := h
  simp only [trSs, trS, trE, trT, trX, pl, trA, trO, trC, trI, uBin_s, uUn_s, uVar_s, uC_s, getS, setS, uOp, uAdd, uSub, uMul, uDiv, uMod, uPow, uNeg, uCmp, uEqF, uLt, uLe, uGt, uGe, uIsF, isNonU, uTru, Blt.fn, uLen, uAbs, uMax2, uMin2, uInt, uIx, startU, gam_fn, gam_gl, tab_xcs, tab_sub, UD_nx, UD_rt, UD_bk, UD_ct, UD_ex, spAt, glAt, gls, seqOf, List.map_cons, List.map_nil, List.cons_append, List.nil_append, List.length_cons, List.length_nil, List.replicate, Nat.reduceAdd, Nat.reduceSub, Nat.zero_add, reduceIte, Bool.false_eq_true, Bool.true_eq_false, Bool.false_bne, Bool.true_bne, Bool.not_true, Bool.not_false, Bool.not_not, List.reverse_cons, List.reverse_nil, Option.map_some, Option.map_none, up_same, uTuple, uList, uSet, atI_zero, atI_one, ixN_20, ixN_zero, List.set_cons_zero, uPow, b_is_mode, n_is_mode]
  refine isi_str rfl ?_
  simp only [trSs, trS, trE, trT, trX, pl, trA, trO, trC, trI, uBin_s, uUn_s, uVar_s, uC_s, getS, setS, uOp, uAdd, uSub, uMul, uDiv, uMod, uPow, uNeg, uCmp, uEqF, uLt, uLe, uGt, uGe, uIsF, isNonU, uTru, Blt.fn, uLen, uAbs, uMax2, uMin2, uInt, uIx, startU, gam_fn, gam_gl, tab_xcs, tab_sub, UD_nx, UD_rt, UD_bk, UD_ct, UD_ex, spAt, glAt, gls, seqOf, List.map_cons, List.map_nil, List.cons_append, List.nil_append, List.length_cons, List.length_nil, List.replicate, Nat.reduceAdd, Nat.reduceSub, Nat.zero_add, reduceIte, Bool.false_eq_true, Bool.true_eq_false, Bool.false_bne, Bool.true_bne, Bool.not_true, Bool.not_false, Bool.not_not, List.reverse_cons, List.reverse_nil, Option.map_some, Option.map_none, up_same, uTuple, uList, uSet, atI_zero, atI_one, ixN_20, ixN_zero, List.set_cons_zero, uPow, kS, uInF]
  exact ⟨by decide, rfl, rfl, fin.of (by have e : inU (.str "near") [.str "down", .str "near", .str "zero"] = true := by decide +kernel
                                         rw [e]; exact q)⟩
/-! ### clip, turned -/
def clipI (v : Int) : Int := max (-1048575) (min 1048575 v)
def sp_clip : USp := fun us G Q _ => ∃ v, us = [.int v] ∧ Q (.int (clipI v)) G
def cl_clip : List (Str × USp) := [("is_integer", sp_is_integer)]
theorem w_clip (us : List U) (G : UH) (Q : UK) (E : UXn → UH → Prop) (h : sp_clip us G Q E) : trSs (TB cl_clip) (GM cl_clip) b_clip (UD Q E) (startU n_clip us) G := by
  obtain ⟨v, rfl, q⟩ := h
  simp only [trSs, trS, trE, trT, trX, pl, trA, trO, trC, trI, uBin_s, uUn_s, uVar_s, uC_s, getS, setS, uOp, uAdd, uSub, uMul, uDiv, uMod, uPow, uNeg, uCmp, uEqF, uLt, uLe, uGt, uGe, uIsF, isNonU, uTru, Blt.fn, uLen, uAbs, uMax2, uMin2, uInt, uIx, startU, gam_fn, gam_gl, tab_xcs, tab_sub, UD_nx, UD_rt, UD_bk, UD_ct, UD_ex, spAt, glAt, gls, seqOf, List.map_cons, List.map_nil, List.cons_append, List.nil_append, List.length_cons, List.length_nil, List.replicate, Nat.reduceAdd, Nat.reduceSub, Nat.zero_add, reduceIte, Bool.false_eq_true, Bool.true_eq_false, Bool.false_bne, Bool.true_bne, Bool.not_true, Bool.not_false, Bool.not_not, List.reverse_cons, List.reverse_nil, Option.map_some, Option.map_none, up_same, uTuple, uList, uSet, atI_zero, atI_one, ixN_20, ixN_zero, List.set_cons_zero, uPow, b_clip, n_clip, cl_clip]
  refine ⟨_, rfl, rfl, ?_⟩
  simp only [trSs, trS, trE, trT, trX, pl, trA, trO, trC, trI, uBin_s, uUn_s, uVar_s, uC_s, getS, setS, uOp, uAdd, uSub, uMul, uDiv, uMod, uPow, uNeg, uCmp, uEqF, uLt, uLe, uGt, uGe, uIsF, isNonU, uTru, Blt.fn, uLen, uAbs, uMax2, uMin2, uInt, uIx, startU, gam_fn, gam_gl, tab_xcs, tab_sub, UD_nx, UD_rt, UD_bk, UD_ct, UD_ex, spAt, glAt, gls, seqOf, List.map_cons, List.map_nil, List.cons_append, List.nil_append, List.length_cons, List.length_nil, List.replicate, Nat.reduceAdd, Nat.reduceSub, Nat.zero_add, reduceIte, Bool.false_eq_true, Bool.true_eq_false, Bool.false_bne, Bool.true_bne, Bool.not_true, Bool.not_false, Bool.not_not, List.reverse_cons, List.reverse_nil, Option.map_some, Option.map_none, up_same, uTuple, uList, uSet, atI_zero, atI_one, ixN_20, ixN_zero, List.set_cons_zero, uPow, isI, t1_clip]
  exact fin.of q
def sp_turned : USp := fun us G Q _ => ∃ v, us = [.int v, .int 4096, .str "near"] ∧ Q (.int ((2 * v + 4096) / 8192)) G
def cl_turned : List (Str × USp) := [("is_integer", sp_is_integer), ("is_mode", sp_is_mode)]
theorem w_turned (us : List U) (G : UH) (Q : UK) (E : UXn → UH → Prop) (h : sp_turned us G Q E) : trSs (TB cl_turned) (GM cl_turned) b_turned (UD Q E) (startU n_turned us) G := by
  obtain ⟨v, rfl, q⟩ := h
  simp only [trSs, trS, trE, trT, trX, pl, trA, trO, trC, trI, uBin_s, uUn_s, uVar_s, uC_s, getS, setS, uOp, uAdd, uSub, uMul, uDiv, uMod, uPow, uNeg, uCmp, uEqF, uLt, uLe, uGt, uGe, uIsF, isNonU, uTru, Blt.fn, uLen, uAbs, uMax2, uMin2, uInt, uIx, startU, gam_fn, gam_gl, tab_xcs, tab_sub, UD_nx, UD_rt, UD_bk, UD_ct, UD_ex, spAt, glAt, gls, seqOf, List.map_cons, List.map_nil, List.cons_append, List.nil_append, List.length_cons, List.length_nil, List.replicate, Nat.reduceAdd, Nat.reduceSub, Nat.zero_add, reduceIte, Bool.false_eq_true, Bool.true_eq_false, Bool.false_bne, Bool.true_bne, Bool.not_true, Bool.not_false, Bool.not_not, List.reverse_cons, List.reverse_nil, Option.map_some, Option.map_none, up_same, uTuple, uList, uSet, atI_zero, atI_one, ixN_20, ixN_zero, List.set_cons_zero, uPow, b_turned, n_turned, cl_turned]
  refine ⟨_, rfl, rfl, ?_⟩
  simp only [trSs, trS, trE, trT, trX, pl, trA, trO, trC, trI, uBin_s, uUn_s, uVar_s, uC_s, getS, setS, uOp, uAdd, uSub, uMul, uDiv, uMod, uPow, uNeg, uCmp, uEqF, uLt, uLe, uGt, uGe, uIsF, isNonU, uTru, Blt.fn, uLen, uAbs, uMax2, uMin2, uInt, uIx, startU, gam_fn, gam_gl, tab_xcs, tab_sub, UD_nx, UD_rt, UD_bk, UD_ct, UD_ex, spAt, glAt, gls, seqOf, List.map_cons, List.map_nil, List.cons_append, List.nil_append, List.length_cons, List.length_nil, List.replicate, Nat.reduceAdd, Nat.reduceSub, Nat.zero_add, reduceIte, Bool.false_eq_true, Bool.true_eq_false, Bool.false_bne, Bool.true_bne, Bool.not_true, Bool.not_false, Bool.not_not, List.reverse_cons, List.reverse_nil, Option.map_some, Option.map_none, up_same, uTuple, uList, uSet, atI_zero, atI_one, ixN_20, ixN_zero, List.set_cons_zero, uPow, isI, t4_turned, t5_turned, cl_turned]
  refine ⟨_, rfl, rfl, ?_⟩
  simp only [trSs, trS, trE, trT, trX, pl, trA, trO, trC, trI, uBin_s, uUn_s, uVar_s, uC_s, getS, setS, uOp, uAdd, uSub, uMul, uDiv, uMod, uPow, uNeg, uCmp, uEqF, uLt, uLe, uGt, uGe, uIsF, isNonU, uTru, Blt.fn, uLen, uAbs, uMax2, uMin2, uInt, uIx, startU, gam_fn, gam_gl, tab_xcs, tab_sub, UD_nx, UD_rt, UD_bk, UD_ct, UD_ex, spAt, glAt, gls, seqOf, List.map_cons, List.map_nil, List.cons_append, List.nil_append, List.length_cons, List.length_nil, List.replicate, Nat.reduceAdd, Nat.reduceSub, Nat.zero_add, reduceIte, Bool.false_eq_true, Bool.true_eq_false, Bool.false_bne, Bool.true_bne, Bool.not_true, Bool.not_false, Bool.not_not, List.reverse_cons, List.reverse_nil, Option.map_some, Option.map_none, up_same, uTuple, uList, uSet, atI_zero, atI_one, ixN_20, ixN_zero, List.set_cons_zero, uPow, isI, show decide ((4096 : Int) < 1) = false from rfl, t3_turned]
  refine ⟨rfl, ?_⟩
  simp only [trSs, trS, trE, trT, trX, pl, trA, trO, trC, trI, uBin_s, uUn_s, uVar_s, uC_s, getS, setS, uOp, uAdd, uSub, uMul, uDiv, uMod, uPow, uNeg, uCmp, uEqF, uLt, uLe, uGt, uGe, uIsF, isNonU, uTru, Blt.fn, uLen, uAbs, uMax2, uMin2, uInt, uIx, startU, gam_fn, gam_gl, tab_xcs, tab_sub, UD_nx, UD_rt, UD_bk, UD_ct, UD_ex, spAt, glAt, gls, seqOf, List.map_cons, List.map_nil, List.cons_append, List.nil_append, List.length_cons, List.length_nil, List.replicate, Nat.reduceAdd, Nat.reduceSub, Nat.zero_add, reduceIte, Bool.false_eq_true, Bool.true_eq_false, Bool.false_bne, Bool.true_bne, Bool.not_true, Bool.not_false, Bool.not_not, List.reverse_cons, List.reverse_nil, Option.map_some, Option.map_none, up_same, uTuple, uList, uSet, atI_zero, atI_one, ixN_20, ixN_zero, List.set_cons_zero, uPow, decide_true, t2_turned]
  exact ⟨mulL (by decide) (by decide), mulL (by decide) (by decide), divS (by decide) (by decide), fin.of q⟩
/-! ### is_points -/
def ok2 (G : UH) (u : U) : Prop := tyS G u ∧ ∀ ws, u = .tup ws → ∀ x ∈ ws, okS G x
def ok3 (G : UH) (u : U) : Prop := tyS G u ∧ ∀ ws, u = .tup ws → ∀ x ∈ ws, ok2 G x
def ahOk : Option Int → Int → Bool
  | none, _ => true
  | some c, p => decide (c < p)
def ptsG (ah : Option Int) : List U → Bool
  | [] => true
  | .tup [a, b] :: r => isW a && isW b && ahOk ah (intV a) && ptsG (some (intV a)) r
  | _ :: _ => false
def isPts : U → Bool
  | .tup us => decide (1 ≤ us.length) && decide (us.length ≤ 64) && ptsG none us
  | _ => false
def ahU : Option Int → U
  | none => .non
  | some c => .int c
def sp_is_points : USp := fun us G Q _ => ∃ u, us = [u] ∧ ok2 G u ∧ Q (.bl (isPts u)) G
def cl_is_points : List (Str × USp) := [("is_worth", sp_is_worth)]
theorem isW_int {u : U} (h : isW u = true) : ∃ i, u = .int i ∧ -1048575 ≤ i ∧ i ≤ 1048575 := by
  cases u with
  | int i =>
    simp only [isW, Bool.and_eq_true, decide_eq_true_eq] at h
    exact ⟨i, rfl, h.1, h.2⟩
  | _ => cases h
theorem ptsG_bad {ah : Option Int} {w : U} {r : List U} (h : ∀ a b, w ≠ .tup [a, b]) : ptsG ah (w :: r) = false := by
  unfold ptsG
  split
  · rename_i e; cases e
  · rename_i a b r' e
    rw [List.cons.injEq] at e
    exact absurd e.1 (h a b)
  · rfl
theorem l_is_points {G : UH} {t : U} (D : UE) : ∀ (ws : List U) (ah : Option Int) (o2 o3 o4 : Option U), (∀ x ∈ ws, okS G x) → (ptsG ah ws = false → D.rt (.bl false) G) → (ptsG ah ws = true → ∀ o1 o2 o3 o4, D.nx [some t, o1, o2, o3, o4] G) →
    forU [] (trG (.nm 2)) (trSs (TB cl_is_points) (GM cl_is_points) l1_is_points) D ws [some t, some (ahU ah), o2, o3, o4] G
  | [], ah, o2, o3, o4, _, _, qn => ⟨trivial, qn rfl _ _ _ _⟩
  | w :: ws, ah, o2, o3, o4, hk, qf, qn => by
    have hw := hk w List.mem_cons_self
    have next : ∀ c o2 o3 o4, (ptsG (some c) ws = false → D.rt (.bl false) G) → (ptsG (some c) ws = true → ∀ o1 o2 o3 o4, D.nx [some t, o1, o2, o3, o4] G) → forU [] (trG (.nm 2)) (trSs (TB cl_is_points) (GM cl_is_points) l1_is_points) D ws [some t, some (.int c), o2, o3, o4] G := fun c o2 o3 o4 h1 h2 => l_is_points D ws (some c) o2 o3 o4 (fun x hx => hk x (List.mem_cons_of_mem _ hx)) h1 h2
    refine ⟨trivial, ?_⟩
    generalize forU _ _ _ D ws = T at next ⊢
    simp only [trSs, trS, trE, trT, trX, pl, trA, trO, trC, trI, uBin_s, uUn_s, uVar_s, uC_s, getS, setS, uOp, uAdd, uSub, uMul, uDiv, uMod, uPow, uNeg, uCmp, uEqF, uLt, uLe, uGt, uGe, uIsF, isNonU, uTru, Blt.fn, uLen, uAbs, uMax2, uMin2, uInt, uIx, startU, gam_fn, gam_gl, tab_xcs, tab_sub, UD_nx, UD_rt, UD_bk, UD_ct, UD_ex, spAt, glAt, gls, seqOf, List.map_cons, List.map_nil, List.cons_append, List.nil_append, List.length_cons, List.length_nil, List.replicate, Nat.reduceAdd, Nat.reduceSub, Nat.zero_add, reduceIte, Bool.false_eq_true, Bool.true_eq_false, Bool.false_bne, Bool.true_bne, Bool.not_true, Bool.not_false, Bool.not_not, List.reverse_cons, List.reverse_nil, Option.map_some, Option.map_none, up_same, uTuple, uList, uSet, atI_zero, atI_one, ixN_20, ixN_zero, List.set_cons_zero, uPow, trG, l1_is_points]
    refine isi_tuple hw.1 ?_
    by_cases hp : ∃ a b, w = .tup [a, b]
    · obtain ⟨a, b, rfl⟩ := hp
      have ta := hw.2 _ rfl a (by simp)
      have tb := hw.2 _ rfl b (by simp)
      have eG : ptsG ah (.tup [a, b] :: ws) = (isW a && isW b && ahOk ah (intV a) && ptsG (some (intV a)) ws) := rfl
      rw [eG] at qf qn
      simp only [trSs, trS, trE, trT, trX, pl, trA, trO, trC, trI, uBin_s, uUn_s, uVar_s, uC_s, getS, setS, uOp, uAdd, uSub, uMul, uDiv, uMod, uPow, uNeg, uCmp, uEqF, uLt, uLe, uGt, uGe, uIsF, isNonU, uTru, Blt.fn, uLen, uAbs, uMax2, uMin2, uInt, uIx, startU, gam_fn, gam_gl, tab_xcs, tab_sub, UD_nx, UD_rt, UD_bk, UD_ct, UD_ex, spAt, glAt, gls, seqOf, List.map_cons, List.map_nil, List.cons_append, List.nil_append, List.length_cons, List.length_nil, List.replicate, Nat.reduceAdd, Nat.reduceSub, Nat.zero_add, reduceIte, Bool.false_eq_true, Bool.true_eq_false, Bool.false_bne, Bool.true_bne, Bool.not_true, Bool.not_false, Bool.not_not, List.reverse_cons, List.reverse_nil, Option.map_some, Option.map_none, up_same, uTuple, uList, uSet, atI_zero, atI_one, ixN_20, ixN_zero, List.set_cons_zero, uPow, kT, show decide ((((0 : Nat) + 1 + 1 : Nat) : Int) = 2) = true from rfl, decide_true]
      simp only [trSs, trS, trE, trT, trX, pl, trA, trO, trC, trI, uBin_s, uUn_s, uVar_s, uC_s, getS, setS, uOp, uAdd, uSub, uMul, uDiv, uMod, uPow, uNeg, uCmp, uEqF, uLt, uLe, uGt, uGe, uIsF, isNonU, uTru, Blt.fn, uLen, uAbs, uMax2, uMin2, uInt, uIx, startU, gam_fn, gam_gl, tab_xcs, tab_sub, UD_nx, UD_rt, UD_bk, UD_ct, UD_ex, spAt, glAt, gls, seqOf, List.map_cons, List.map_nil, List.cons_append, List.nil_append, List.length_cons, List.length_nil, List.replicate, Nat.reduceAdd, Nat.reduceSub, Nat.zero_add, reduceIte, Bool.false_eq_true, Bool.true_eq_false, Bool.false_bne, Bool.true_bne, Bool.not_true, Bool.not_false, Bool.not_not, List.reverse_cons, List.reverse_nil, Option.map_some, Option.map_none, up_same, uTuple, uList, uSet, atI_zero, atI_one, ixN_20, ixN_zero, List.set_cons_zero, uPow, t4_is_points, trG, trGs, lenG]
      refine ⟨trivial, trivial, ?_⟩
      simp only [trSs, trS, trE, trT, trX, pl, trA, trO, trC, trI, uBin_s, uUn_s, uVar_s, uC_s, getS, setS, uOp, uAdd, uSub, uMul, uDiv, uMod, uPow, uNeg, uCmp, uEqF, uLt, uLe, uGt, uGe, uIsF, isNonU, uTru, Blt.fn, uLen, uAbs, uMax2, uMin2, uInt, uIx, startU, gam_fn, gam_gl, tab_xcs, tab_sub, UD_nx, UD_rt, UD_bk, UD_ct, UD_ex, spAt, glAt, gls, seqOf, List.map_cons, List.map_nil, List.cons_append, List.nil_append, List.length_cons, List.length_nil, List.replicate, Nat.reduceAdd, Nat.reduceSub, Nat.zero_add, reduceIte, Bool.false_eq_true, Bool.true_eq_false, Bool.false_bne, Bool.true_bne, Bool.not_true, Bool.not_false, Bool.not_not, List.reverse_cons, List.reverse_nil, Option.map_some, Option.map_none, up_same, uTuple, uList, uSet, atI_zero, atI_one, ixN_20, ixN_zero, List.set_cons_zero, uPow, t3_is_points, cl_is_points]
      refine ⟨a, rfl, ta, ?_⟩
      cases ea : isW a with
      | false =>
        simp only [trSs, trS, trE, trT, trX, pl, trA, trO, trC, trI, uBin_s, uUn_s, uVar_s, uC_s, getS, setS, uOp, uAdd, uSub, uMul, uDiv, uMod, uPow, uNeg, uCmp, uEqF, uLt, uLe, uGt, uGe, uIsF, isNonU, uTru, Blt.fn, uLen, uAbs, uMax2, uMin2, uInt, uIx, startU, gam_fn, gam_gl, tab_xcs, tab_sub, UD_nx, UD_rt, UD_bk, UD_ct, UD_ex, spAt, glAt, gls, seqOf, List.map_cons, List.map_nil, List.cons_append, List.nil_append, List.length_cons, List.length_nil, List.replicate, Nat.reduceAdd, Nat.reduceSub, Nat.zero_add, reduceIte, Bool.false_eq_true, Bool.true_eq_false, Bool.false_bne, Bool.true_bne, Bool.not_true, Bool.not_false, Bool.not_not, List.reverse_cons, List.reverse_nil, Option.map_some, Option.map_none, up_same, uTuple, uList, uSet, atI_zero, atI_one, ixN_20, ixN_zero, List.set_cons_zero, uPow]
        exact qf (by rw [ea]; rfl)
      | true =>
        simp only [trSs, trS, trE, trT, trX, pl, trA, trO, trC, trI, uBin_s, uUn_s, uVar_s, uC_s, getS, setS, uOp, uAdd, uSub, uMul, uDiv, uMod, uPow, uNeg, uCmp, uEqF, uLt, uLe, uGt, uGe, uIsF, isNonU, uTru, Blt.fn, uLen, uAbs, uMax2, uMin2, uInt, uIx, startU, gam_fn, gam_gl, tab_xcs, tab_sub, UD_nx, UD_rt, UD_bk, UD_ct, UD_ex, spAt, glAt, gls, seqOf, List.map_cons, List.map_nil, List.cons_append, List.nil_append, List.length_cons, List.length_nil, List.replicate, Nat.reduceAdd, Nat.reduceSub, Nat.zero_add, reduceIte, Bool.false_eq_true, Bool.true_eq_false, Bool.false_bne, Bool.true_bne, Bool.not_true, Bool.not_false, Bool.not_not, List.reverse_cons, List.reverse_nil, Option.map_some, Option.map_none, up_same, uTuple, uList, uSet, atI_zero, atI_one, ixN_20, ixN_zero, List.set_cons_zero, uPow]
        refine ⟨b, rfl, tb, ?_⟩
        cases eb : isW b with
        | false =>
          simp only [trSs, trS, trE, trT, trX, pl, trA, trO, trC, trI, uBin_s, uUn_s, uVar_s, uC_s, getS, setS, uOp, uAdd, uSub, uMul, uDiv, uMod, uPow, uNeg, uCmp, uEqF, uLt, uLe, uGt, uGe, uIsF, isNonU, uTru, Blt.fn, uLen, uAbs, uMax2, uMin2, uInt, uIx, startU, gam_fn, gam_gl, tab_xcs, tab_sub, UD_nx, UD_rt, UD_bk, UD_ct, UD_ex, spAt, glAt, gls, seqOf, List.map_cons, List.map_nil, List.cons_append, List.nil_append, List.length_cons, List.length_nil, List.replicate, Nat.reduceAdd, Nat.reduceSub, Nat.zero_add, reduceIte, Bool.false_eq_true, Bool.true_eq_false, Bool.false_bne, Bool.true_bne, Bool.not_true, Bool.not_false, Bool.not_not, List.reverse_cons, List.reverse_nil, Option.map_some, Option.map_none, up_same, uTuple, uList, uSet, atI_zero, atI_one, ixN_20, ixN_zero, List.set_cons_zero, uPow]
          exact qf (by rw [ea, eb]; rfl)
        | true =>
          obtain ⟨i, rfl, _, _⟩ := isW_int ea
          rw [ea, eb] at qf qn
          simp only [Bool.true_and, intV] at qf qn
          cases ah with
          | none =>
            simp only [trSs, trS, trE, trT, trX, pl, trA, trO, trC, trI, uBin_s, uUn_s, uVar_s, uC_s, getS, setS, uOp, uAdd, uSub, uMul, uDiv, uMod, uPow, uNeg, uCmp, uEqF, uLt, uLe, uGt, uGe, uIsF, isNonU, uTru, Blt.fn, uLen, uAbs, uMax2, uMin2, uInt, uIx, startU, gam_fn, gam_gl, tab_xcs, tab_sub, UD_nx, UD_rt, UD_bk, UD_ct, UD_ex, spAt, glAt, gls, seqOf, List.map_cons, List.map_nil, List.cons_append, List.nil_append, List.length_cons, List.length_nil, List.replicate, Nat.reduceAdd, Nat.reduceSub, Nat.zero_add, reduceIte, Bool.false_eq_true, Bool.true_eq_false, Bool.false_bne, Bool.true_bne, Bool.not_true, Bool.not_false, Bool.not_not, List.reverse_cons, List.reverse_nil, Option.map_some, Option.map_none, up_same, uTuple, uList, uSet, atI_zero, atI_one, ixN_20, ixN_zero, List.set_cons_zero, uPow, t2_is_points, ahU, t1_is_points, trG]
            exact ⟨G, .refl G, next i _ _ _ qf qn⟩
          | some c =>
            simp only [trSs, trS, trE, trT, trX, pl, trA, trO, trC, trI, uBin_s, uUn_s, uVar_s, uC_s, getS, setS, uOp, uAdd, uSub, uMul, uDiv, uMod, uPow, uNeg, uCmp, uEqF, uLt, uLe, uGt, uGe, uIsF, isNonU, uTru, Blt.fn, uLen, uAbs, uMax2, uMin2, uInt, uIx, startU, gam_fn, gam_gl, tab_xcs, tab_sub, UD_nx, UD_rt, UD_bk, UD_ct, UD_ex, spAt, glAt, gls, seqOf, List.map_cons, List.map_nil, List.cons_append, List.nil_append, List.length_cons, List.length_nil, List.replicate, Nat.reduceAdd, Nat.reduceSub, Nat.zero_add, reduceIte, Bool.false_eq_true, Bool.true_eq_false, Bool.false_bne, Bool.true_bne, Bool.not_true, Bool.not_false, Bool.not_not, List.reverse_cons, List.reverse_nil, Option.map_some, Option.map_none, up_same, uTuple, uList, uSet, atI_zero, atI_one, ixN_20, ixN_zero, List.set_cons_zero, uPow, t2_is_points, ahU]
            by_cases hc : i ≤ c
            · simp only [trSs, trS, trE, trT, trX, pl, trA, trO, trC, trI, uBin_s, uUn_s, uVar_s, uC_s, getS, setS, uOp, uAdd, uSub, uMul, uDiv, uMod, uPow, uNeg, uCmp, uEqF, uLt, uLe, uGt, uGe, uIsF, isNonU, uTru, Blt.fn, uLen, uAbs, uMax2, uMin2, uInt, uIx, startU, gam_fn, gam_gl, tab_xcs, tab_sub, UD_nx, UD_rt, UD_bk, UD_ct, UD_ex, spAt, glAt, gls, seqOf, List.map_cons, List.map_nil, List.cons_append, List.nil_append, List.length_cons, List.length_nil, List.replicate, Nat.reduceAdd, Nat.reduceSub, Nat.zero_add, reduceIte, Bool.false_eq_true, Bool.true_eq_false, Bool.false_bne, Bool.true_bne, Bool.not_true, Bool.not_false, Bool.not_not, List.reverse_cons, List.reverse_nil, Option.map_some, Option.map_none, up_same, uTuple, uList, uSet, atI_zero, atI_one, ixN_20, ixN_zero, List.set_cons_zero, uPow, hc, decide_true]
              exact qf (by rw [show ahOk (some c) i = false from decide_eq_false (by omega)]; rfl)
            · rw [show ahOk (some c) i = true from decide_eq_true (by omega)] at qf qn
              simp only [trSs, trS, trE, trT, trX, pl, trA, trO, trC, trI, uBin_s, uUn_s, uVar_s, uC_s, getS, setS, uOp, uAdd, uSub, uMul, uDiv, uMod, uPow, uNeg, uCmp, uEqF, uLt, uLe, uGt, uGe, uIsF, isNonU, uTru, Blt.fn, uLen, uAbs, uMax2, uMin2, uInt, uIx, startU, gam_fn, gam_gl, tab_xcs, tab_sub, UD_nx, UD_rt, UD_bk, UD_ct, UD_ex, spAt, glAt, gls, seqOf, List.map_cons, List.map_nil, List.cons_append, List.nil_append, List.length_cons, List.length_nil, List.replicate, Nat.reduceAdd, Nat.reduceSub, Nat.zero_add, reduceIte, Bool.false_eq_true, Bool.true_eq_false, Bool.false_bne, Bool.true_bne, Bool.not_true, Bool.not_false, Bool.not_not, List.reverse_cons, List.reverse_nil, Option.map_some, Option.map_none, up_same, uTuple, uList, uSet, atI_zero, atI_one, ixN_20, ixN_zero, List.set_cons_zero, uPow, hc, decide_false, t1_is_points, trG]
              exact ⟨G, .refl G, next i _ _ _ qf qn⟩
    · have hb := ptsG_bad (ah := ah) (r := ws) (w := w) fun a b e => hp ⟨a, b, e⟩
      cases w with
      | tup us =>
        have hl : ¬ us.length = 2 := fun e => hp (by
          match us, e with
          | [a, b], _ => exact ⟨a, b, rfl⟩)
        simp only [trSs, trS, trE, trT, trX, pl, trA, trO, trC, trI, uBin_s, uUn_s, uVar_s, uC_s, getS, setS, uOp, uAdd, uSub, uMul, uDiv, uMod, uPow, uNeg, uCmp, uEqF, uLt, uLe, uGt, uGe, uIsF, isNonU, uTru, Blt.fn, uLen, uAbs, uMax2, uMin2, uInt, uIx, startU, gam_fn, gam_gl, tab_xcs, tab_sub, UD_nx, UD_rt, UD_bk, UD_ct, UD_ex, spAt, glAt, gls, seqOf, List.map_cons, List.map_nil, List.cons_append, List.nil_append, List.length_cons, List.length_nil, List.replicate, Nat.reduceAdd, Nat.reduceSub, Nat.zero_add, reduceIte, Bool.false_eq_true, Bool.true_eq_false, Bool.false_bne, Bool.true_bne, Bool.not_true, Bool.not_false, Bool.not_not, List.reverse_cons, List.reverse_nil, Option.map_some, Option.map_none, up_same, uTuple, uList, uSet, atI_zero, atI_one, ixN_20, ixN_zero, List.set_cons_zero, uPow, kT, show decide ((us.length : Int) = 2) = false from decide_eq_false (by omega)]
        exact qf hb
      | _ =>
        simp only [trSs, trS, trE, trT, trX, pl, trA, trO, trC, trI, uBin_s, uUn_s, uVar_s, uC_s, getS, setS, uOp, uAdd, uSub, uMul, uDiv, uMod, uPow, uNeg, uCmp, uEqF, uLt, uLe, uGt, uGe, uIsF, isNonU, uTru, Blt.fn, uLen, uAbs, uMax2, uMin2, uInt, uIx, startU, gam_fn, gam_gl, tab_xcs, tab_sub, UD_nx, UD_rt, UD_bk, UD_ct, UD_ex, spAt, glAt, gls, seqOf, List.map_cons, List.map_nil, List.cons_append, List.nil_append, List.length_cons, List.length_nil, List.replicate, Nat.reduceAdd, Nat.reduceSub, Nat.zero_add, reduceIte, Bool.false_eq_true, Bool.true_eq_false, Bool.false_bne, Bool.true_bne, Bool.not_true, Bool.not_false, Bool.not_not, List.reverse_cons, List.reverse_nil, Option.map_some, Option.map_none, up_same, uTuple, uList, uSet, atI_zero, atI_one, ixN_20, ixN_zero, List.set_cons_zero, uPow, kT]
        exact qf hb
theorem w_is_points (us : List U) (G : UH) (Q : UK) (E : UXn → UH → Prop) (h : sp_is_points us G Q E) : trSs (TB cl_is_points) (GM cl_is_points) b_is_points (UD Q E) (startU n_is_points us) G := by
  obtain ⟨u, rfl, hu, q⟩ := h
  simp only [trSs, trS, trE, trT, trX, pl, trA, trO, trC, trI, uBin_s, uUn_s, uVar_s, uC_s, getS, setS, uOp, uAdd, uSub, uMul, uDiv, uMod, uPow, uNeg, uCmp, uEqF, uLt, uLe, uGt, uGe, uIsF, isNonU, uTru, Blt.fn, uLen, uAbs, uMax2, uMin2, uInt, uIx, startU, gam_fn, gam_gl, tab_xcs, tab_sub, UD_nx, UD_rt, UD_bk, UD_ct, UD_ex, spAt, glAt, gls, seqOf, List.map_cons, List.map_nil, List.cons_append, List.nil_append, List.length_cons, List.length_nil, List.replicate, Nat.reduceAdd, Nat.reduceSub, Nat.zero_add, reduceIte, Bool.false_eq_true, Bool.true_eq_false, Bool.false_bne, Bool.true_bne, Bool.not_true, Bool.not_false, Bool.not_not, List.reverse_cons, List.reverse_nil, Option.map_some, Option.map_none, up_same, uTuple, uList, uSet, atI_zero, atI_one, ixN_20, ixN_zero, List.set_cons_zero, uPow, b_is_points, n_is_points]
  refine isi_tuple hu.1 ?_
  cases u with
  | tup ws =>
    simp only [trSs, trS, trE, trT, trX, pl, trA, trO, trC, trI, uBin_s, uUn_s, uVar_s, uC_s, getS, setS, uOp, uAdd, uSub, uMul, uDiv, uMod, uPow, uNeg, uCmp, uEqF, uLt, uLe, uGt, uGe, uIsF, isNonU, uTru, Blt.fn, uLen, uAbs, uMax2, uMin2, uInt, uIx, startU, gam_fn, gam_gl, tab_xcs, tab_sub, UD_nx, UD_rt, UD_bk, UD_ct, UD_ex, spAt, glAt, gls, seqOf, List.map_cons, List.map_nil, List.cons_append, List.nil_append, List.length_cons, List.length_nil, List.replicate, Nat.reduceAdd, Nat.reduceSub, Nat.zero_add, reduceIte, Bool.false_eq_true, Bool.true_eq_false, Bool.false_bne, Bool.true_bne, Bool.not_true, Bool.not_false, Bool.not_not, List.reverse_cons, List.reverse_nil, Option.map_some, Option.map_none, up_same, uTuple, uList, uSet, atI_zero, atI_one, ixN_20, ixN_zero, List.set_cons_zero, uPow, kT]
    by_cases l1 : (1 : Int) ≤ (ws.length : Int)
    · simp only [trSs, trS, trE, trT, trX, pl, trA, trO, trC, trI, uBin_s, uUn_s, uVar_s, uC_s, getS, setS, uOp, uAdd, uSub, uMul, uDiv, uMod, uPow, uNeg, uCmp, uEqF, uLt, uLe, uGt, uGe, uIsF, isNonU, uTru, Blt.fn, uLen, uAbs, uMax2, uMin2, uInt, uIx, startU, gam_fn, gam_gl, tab_xcs, tab_sub, UD_nx, UD_rt, UD_bk, UD_ct, UD_ex, spAt, glAt, gls, seqOf, List.map_cons, List.map_nil, List.cons_append, List.nil_append, List.length_cons, List.length_nil, List.replicate, Nat.reduceAdd, Nat.reduceSub, Nat.zero_add, reduceIte, Bool.false_eq_true, Bool.true_eq_false, Bool.false_bne, Bool.true_bne, Bool.not_true, Bool.not_false, Bool.not_not, List.reverse_cons, List.reverse_nil, Option.map_some, Option.map_none, up_same, uTuple, uList, uSet, atI_zero, atI_one, ixN_20, ixN_zero, List.set_cons_zero, uPow, l1, decide_true]
      by_cases l2 : (ws.length : Int) ≤ 64
      · simp only [trSs, trS, trE, trT, trX, pl, trA, trO, trC, trI, uBin_s, uUn_s, uVar_s, uC_s, getS, setS, uOp, uAdd, uSub, uMul, uDiv, uMod, uPow, uNeg, uCmp, uEqF, uLt, uLe, uGt, uGe, uIsF, isNonU, uTru, Blt.fn, uLen, uAbs, uMax2, uMin2, uInt, uIx, startU, gam_fn, gam_gl, tab_xcs, tab_sub, UD_nx, UD_rt, UD_bk, UD_ct, UD_ex, spAt, glAt, gls, seqOf, List.map_cons, List.map_nil, List.cons_append, List.nil_append, List.length_cons, List.length_nil, List.replicate, Nat.reduceAdd, Nat.reduceSub, Nat.zero_add, reduceIte, Bool.false_eq_true, Bool.true_eq_false, Bool.false_bne, Bool.true_bne, Bool.not_true, Bool.not_false, Bool.not_not, List.reverse_cons, List.reverse_nil, Option.map_some, Option.map_none, up_same, uTuple, uList, uSet, atI_zero, atI_one, ixN_20, ixN_zero, List.set_cons_zero, uPow, l2, decide_true, t7_is_points, t6_is_points, trG]
        have e : isPts (.tup ws) = ptsG none ws := by simp [isPts, show 1 ≤ ws.length by omega, show ws.length ≤ 64 by omega]
        rw [e] at q
        refine l_is_points _ ws none none none none (hu.2 ws rfl) (fun h => ?_) (fun h o1 o2 o3 o4 => ?_)
        · rw [h] at q
          exact fin.of q
        · rw [h] at q
          simp only [trSs, trS, trE, trT, trX, pl, trA, trO, trC, trI, uBin_s, uUn_s, uVar_s, uC_s, getS, setS, uOp, uAdd, uSub, uMul, uDiv, uMod, uPow, uNeg, uCmp, uEqF, uLt, uLe, uGt, uGe, uIsF, isNonU, uTru, Blt.fn, uLen, uAbs, uMax2, uMin2, uInt, uIx, startU, gam_fn, gam_gl, tab_xcs, tab_sub, UD_nx, UD_rt, UD_bk, UD_ct, UD_ex, spAt, glAt, gls, seqOf, List.map_cons, List.map_nil, List.cons_append, List.nil_append, List.length_cons, List.length_nil, List.replicate, Nat.reduceAdd, Nat.reduceSub, Nat.zero_add, reduceIte, Bool.false_eq_true, Bool.true_eq_false, Bool.false_bne, Bool.true_bne, Bool.not_true, Bool.not_false, Bool.not_not, List.reverse_cons, List.reverse_nil, Option.map_some, Option.map_none, up_same, uTuple, uList, uSet, atI_zero, atI_one, ixN_20, ixN_zero, List.set_cons_zero, uPow, t5_is_points]
          exact fin.of q
      · simp only [trSs, trS, trE, trT, trX, pl, trA, trO, trC, trI, uBin_s, uUn_s, uVar_s, uC_s, getS, setS, uOp, uAdd, uSub, uMul, uDiv, uMod, uPow, uNeg, uCmp, uEqF, uLt, uLe, uGt, uGe, uIsF, isNonU, uTru, Blt.fn, uLen, uAbs, uMax2, uMin2, uInt, uIx, startU, gam_fn, gam_gl, tab_xcs, tab_sub, UD_nx, UD_rt, UD_bk, UD_ct, UD_ex, spAt, glAt, gls, seqOf, List.map_cons, List.map_nil, List.cons_append, List.nil_append, List.length_cons, List.length_nil, List.replicate, Nat.reduceAdd, Nat.reduceSub, Nat.zero_add, reduceIte, Bool.false_eq_true, Bool.true_eq_false, Bool.false_bne, Bool.true_bne, Bool.not_true, Bool.not_false, Bool.not_not, List.reverse_cons, List.reverse_nil, Option.map_some, Option.map_none, up_same, uTuple, uList, uSet, atI_zero, atI_one, ixN_20, ixN_zero, List.set_cons_zero, uPow, l2, decide_false]
        have e : isPts (.tup ws) = false := by simp [isPts, show ¬ ws.length ≤ 64 by omega]
        rw [e] at q
        exact fin.of q
    · simp only [trSs, trS, trE, trT, trX, pl, trA, trO, trC, trI, uBin_s, uUn_s, uVar_s, uC_s, getS, setS, uOp, uAdd, uSub, uMul, uDiv, uMod, uPow, uNeg, uCmp, uEqF, uLt, uLe, uGt, uGe, uIsF, isNonU, uTru, Blt.fn, uLen, uAbs, uMax2, uMin2, uInt, uIx, startU, gam_fn, gam_gl, tab_xcs, tab_sub, UD_nx, UD_rt, UD_bk, UD_ct, UD_ex, spAt, glAt, gls, seqOf, List.map_cons, List.map_nil, List.cons_append, List.nil_append, List.length_cons, List.length_nil, List.replicate, Nat.reduceAdd, Nat.reduceSub, Nat.zero_add, reduceIte, Bool.false_eq_true, Bool.true_eq_false, Bool.false_bne, Bool.true_bne, Bool.not_true, Bool.not_false, Bool.not_not, List.reverse_cons, List.reverse_nil, Option.map_some, Option.map_none, up_same, uTuple, uList, uSet, atI_zero, atI_one, ixN_20, ixN_zero, List.set_cons_zero, uPow, l1, decide_false]
      have e : isPts (.tup ws) = false := by simp [isPts, show ¬ 1 ≤ ws.length by omega]
      rw [e] at q
      exact fin.of q
  | _ =>
    simp only [trSs, trS, trE, trT, trX, pl, trA, trO, trC, trI, uBin_s, uUn_s, uVar_s, uC_s, getS, setS, uOp, uAdd, uSub, uMul, uDiv, uMod, uPow, uNeg, uCmp, uEqF, uLt, uLe, uGt, uGe, uIsF, isNonU, uTru, Blt.fn, uLen, uAbs, uMax2, uMin2, uInt, uIx, startU, gam_fn, gam_gl, tab_xcs, tab_sub, UD_nx, UD_rt, UD_bk, UD_ct, UD_ex, spAt, glAt, gls, seqOf, List.map_cons, List.map_nil, List.cons_append, List.nil_append, List.length_cons, List.length_nil, List.replicate, Nat.reduceAdd, Nat.reduceSub, Nat.zero_add, reduceIte, Bool.false_eq_true, Bool.true_eq_false, Bool.false_bne, Bool.true_bne, Bool.not_true, Bool.not_false, Bool.not_not, List.reverse_cons, List.reverse_nil, Option.map_some, Option.map_none, up_same, uTuple, uList, uSet, atI_zero, atI_one, ixN_20, ixN_zero, List.set_cons_zero, uPow, kT]
    exact fin.of q
end K79
set_option Elab.async false
set_option linter.all false
set_option autoImplicit false
set_option maxRecDepth 100000
set_option maxHeartbeats 4000000
namespace K79
open PySem PySem.Spec L2 UL
theorem okS_le {G G' : UH} (l : Le G G') {u : U} (h : okS G u) : okS G' u := ⟨tyS_le l h.1, fun ws e x hx => tyS_le l (h.2 ws e x hx)⟩
theorem ok2_le {G G' : UH} (l : Le G G') {u : U} (h : ok2 G u) : ok2 G' u := ⟨tyS_le l h.1, fun ws e x hx => okS_le l (h.2 ws e x hx)⟩
theorem ok3_le {G G' : UH} (l : Le G G') {u : U} (h : ok3 G u) : ok3 G' u := ⟨tyS_le l h.1, fun ws e x hx => ok2_le l (h.2 ws e x hx)⟩
/-! ### curve_at -/
def ptU (p : Int × Int) : U := .tup [.int p.1, .int p.2]
def curI : List (Int × Int) → Int → Int
  | [], _ => 0
  | [a], _ => a.2
  | a :: b :: r, k => if k ≤ a.1 then a.2 else if k ≤ b.1 then a.2 + (b.2 - a.2) * (k - a.1) / (b.1 - a.1) else curI (b :: r) k
/-- rising, within the worths' bounds -/
def okP : List (Int × Int) → Prop
  | [] => True
  | [a] => -1048575 ≤ a.1 ∧ a.1 ≤ 1048575 ∧ -1048575 ≤ a.2 ∧ a.2 ≤ 1048575
  | a :: b :: r => (-1048575 ≤ a.1 ∧ a.1 ≤ 1048575 ∧ -1048575 ≤ a.2 ∧ a.2 ≤ 1048575) ∧ a.1 < b.1 ∧ okP (b :: r)
theorem okP_tail {a : Int × Int} {r : List (Int × Int)} (h : okP (a :: r)) : okP r := by
  cases r with
  | nil => trivial
  | cons b r => exact h.2.2
theorem okP_head {a : Int × Int} {r : List (Int × Int)} (h : okP (a :: r)) : -1048575 ≤ a.1 ∧ a.1 ≤ 1048575 ∧ -1048575 ≤ a.2 ∧ a.2 ≤ 1048575 := by
  cases r with
  | nil => exact h
  | cons b r => exact h.1
def sp_curve_at : USp := fun us G Q _ => ∃ (ps : List (Int × Int)) (k : Int), us = [.tup (ps.map ptU), .int k] ∧ ps ≠ [] ∧ ps.length ≤ 64 ∧ okP ps ∧ Q (.int (curI ps k)) G
def cl_curve_at : List (Str × USp) := [("is_integer", sp_is_integer)]
theorem atI_m1 {us : List U} {u : U} (h : us.getLast? = some u) : atI us (-1) = some u := by
  rw [List.getLast?_eq_getElem?] at h
  have hl := (List.getElem?_eq_some_iff.mp h).1
  unfold atI ixN
  rw [if_neg (by decide), if_pos (by omega), Option.bind_some, show (-1 + (us.length : Int)).toNat = us.length - 1 by omega]
  exact h
theorem at_mid {pre r : List (Int × Int)} {a : Int × Int} {i : Int} (h : i = pre.length) : atI ((pre ++ a :: r).map ptU) i = some (ptU a) := by
  refine atI_nat (by omega) ?_
  rw [List.getElem?_map, show i.toNat = pre.length by omega, List.getElem?_append_right (Nat.le_refl _), Nat.sub_self]
  rfl
theorem l_curve_at {G : UH} {ps : List (Int × Int)} {k V : Int} (D : UE) (qr : D.rt (.int V) G) : ∀ (r pre : List (Int × Int)) (a : Int × Int) (o2 o3 o4 o5 o6 : Option U), ps = pre ++ a :: r → okP (a :: r) → a.1 < k → curI (a :: r) k = V →
    (∀ b : Int × Int, (ps.getLast? = some b) → b.2 = V → ∀ o2 o3 o4 o5 o6, D.nx [some (.tup (ps.map ptU)), some (.int k), o2, o3, o4, o5, o6] G) →
    forU [] (trG (.nm 2)) (trSs (TB cl_curve_at) (GM cl_curve_at) l1_curve_at) D (List.map U.int (rangeI (pre.length + 1) 1 r.length)) [some (.tup (ps.map ptU)), some (.int k), o2, o3, o4, o5, o6] G
  | [], pre, a, o2, o3, o4, o5, o6, e, ho, hk, hV, qn => ⟨trivial, qn a (by rw [e]; simp) (by rw [← hV]; rfl) _ _ _ _ _⟩
  | b :: r, pre, a, o2, o3, o4, o5, o6, e, ho, hk, hV, qn => by
    have next : k ≤ b.1 ∨ ∀ o2 o3 o4 o5 o6, forU [] (trG (.nm 2)) (trSs (TB cl_curve_at) (GM cl_curve_at) l1_curve_at) D (List.map U.int (rangeI ((pre.length : Int) + 1 + 1) 1 r.length)) [some (.tup (ps.map ptU)), some (.int k), o2, o3, o4, o5, o6] G := by
      by_cases c : k ≤ b.1
      · exact .inl c
      · refine .inr fun o2 o3 o4 o5 o6 => ?_
        have := l_curve_at D qr r (pre ++ [a]) b o2 o3 o4 o5 o6 (by rw [e]; simp) (okP_tail ho) (by omega) (by
          rw [← hV]
          show _ = if k ≤ a.1 then a.2 else if k ≤ b.1 then _ else _
          rw [if_neg (by omega), if_neg c]) qn
        rw [show (((pre ++ [a]).length : Nat) : Int) = (pre.length : Int) + 1 by simp] at this
        exact this
    have ha := okP_head ho
    have hb := okP_head (okP_tail ho)
    have hab : a.1 < b.1 := ho.2.1
    have e1 : atI (ps.map ptU) ((pre.length : Int) + 1) = some (ptU b) := by
      rw [e, show pre ++ a :: b :: r = (pre ++ [a]) ++ b :: r by simp]
      exact at_mid (by simp)
    have e0 : atI (ps.map ptU) ((pre.length : Int) + 1 - 1) = some (ptU a) := by
      rw [e]
      exact at_mid (by omega)
    refine ⟨trivial, ?_⟩
    show _
    generalize hT : forU _ _ _ D (List.map U.int (rangeI ((pre.length : Int) + 1 + 1) 1 r.length)) = T at next
    simp only [trSs, trS, trE, trT, trX, pl, trA, trO, trC, trI, uBin_s, uUn_s, uVar_s, uC_s, getS, setS, uOp, uAdd, uSub, uMul, uDiv, uMod, uPow, uNeg, uCmp, uEqF, uLt, uLe, uGt, uGe, uIsF, isNonU, uTru, Blt.fn, uLen, uAbs, uMax2, uMin2, uInt, uIx, startU, gam_fn, gam_gl, tab_xcs, tab_sub, UD_nx, UD_rt, UD_bk, UD_ct, UD_ex, spAt, glAt, gls, seqOf, List.map_cons, List.map_nil, List.cons_append, List.nil_append, List.length_cons, List.length_nil, List.replicate, Nat.reduceAdd, Nat.reduceSub, Nat.zero_add, reduceIte, Bool.false_eq_true, Bool.true_eq_false, Bool.false_bne, Bool.true_bne, Bool.not_true, Bool.not_false, Bool.not_not, List.reverse_cons, List.reverse_nil, Option.map_some, Option.map_none, up_same, uTuple, uList, uSet, atI_zero, atI_one, ixN_20, ixN_zero, List.set_cons_zero, uPow, trG, l1_curve_at, e1, ptU, trGs, lenG]
    refine ⟨trivial, trivial, ?_⟩
    by_cases c : k ≤ b.1
    · simp only [trSs, trS, trE, trT, trX, pl, trA, trO, trC, trI, uBin_s, uUn_s, uVar_s, uC_s, getS, setS, uOp, uAdd, uSub, uMul, uDiv, uMod, uPow, uNeg, uCmp, uEqF, uLt, uLe, uGt, uGe, uIsF, isNonU, uTru, Blt.fn, uLen, uAbs, uMax2, uMin2, uInt, uIx, startU, gam_fn, gam_gl, tab_xcs, tab_sub, UD_nx, UD_rt, UD_bk, UD_ct, UD_ex, spAt, glAt, gls, seqOf, List.map_cons, List.map_nil, List.cons_append, List.nil_append, List.length_cons, List.length_nil, List.replicate, Nat.reduceAdd, Nat.reduceSub, Nat.zero_add, reduceIte, Bool.false_eq_true, Bool.true_eq_false, Bool.false_bne, Bool.true_bne, Bool.not_true, Bool.not_false, Bool.not_not, List.reverse_cons, List.reverse_nil, Option.map_some, Option.map_none, up_same, uTuple, uList, uSet, atI_zero, atI_one, ixN_20, ixN_zero, List.set_cons_zero, uPow, t2_curve_at, c, decide_true, trG, e0, ptU, trGs, lenG]
      refine ⟨trivial, trivial, ?_⟩
      simp only [trSs, trS, trE, trT, trX, pl, trA, trO, trC, trI, uBin_s, uUn_s, uVar_s, uC_s, getS, setS, uOp, uAdd, uSub, uMul, uDiv, uMod, uPow, uNeg, uCmp, uEqF, uLt, uLe, uGt, uGe, uIsF, isNonU, uTru, Blt.fn, uLen, uAbs, uMax2, uMin2, uInt, uIx, startU, gam_fn, gam_gl, tab_xcs, tab_sub, UD_nx, UD_rt, UD_bk, UD_ct, UD_ex, spAt, glAt, gls, seqOf, List.map_cons, List.map_nil, List.cons_append, List.nil_append, List.length_cons, List.length_nil, List.replicate, Nat.reduceAdd, Nat.reduceSub, Nat.zero_add, reduceIte, Bool.false_eq_true, Bool.true_eq_false, Bool.false_bne, Bool.true_bne, Bool.not_true, Bool.not_false, Bool.not_not, List.reverse_cons, List.reverse_nil, Option.map_some, Option.map_none, up_same, uTuple, uList, uSet, atI_zero, atI_one, ixN_20, ixN_zero, List.set_cons_zero, uPow, t1_curve_at]
      refine ⟨mulL (by omega) (by omega), divS (by omega) (by omega), ?_⟩
      have : V = a.2 + (b.2 - a.2) * (k - a.1) / (b.1 - a.1) := by
        rw [← hV]
        show (if k ≤ a.1 then a.2 else if k ≤ b.1 then _ else _) = _
        rw [if_neg (by omega), if_pos c]
      rw [← this]
      exact qr
    · simp only [trSs, trS, trE, trT, trX, pl, trA, trO, trC, trI, uBin_s, uUn_s, uVar_s, uC_s, getS, setS, uOp, uAdd, uSub, uMul, uDiv, uMod, uPow, uNeg, uCmp, uEqF, uLt, uLe, uGt, uGe, uIsF, isNonU, uTru, Blt.fn, uLen, uAbs, uMax2, uMin2, uInt, uIx, startU, gam_fn, gam_gl, tab_xcs, tab_sub, UD_nx, UD_rt, UD_bk, UD_ct, UD_ex, spAt, glAt, gls, seqOf, List.map_cons, List.map_nil, List.cons_append, List.nil_append, List.length_cons, List.length_nil, List.replicate, Nat.reduceAdd, Nat.reduceSub, Nat.zero_add, reduceIte, Bool.false_eq_true, Bool.true_eq_false, Bool.false_bne, Bool.true_bne, Bool.not_true, Bool.not_false, Bool.not_not, List.reverse_cons, List.reverse_nil, Option.map_some, Option.map_none, up_same, uTuple, uList, uSet, atI_zero, atI_one, ixN_20, ixN_zero, List.set_cons_zero, uPow, t2_curve_at, c, decide_false]
      exact ⟨G, .refl G, (next.resolve_left c) _ _ _ _ _⟩
theorem w_curve_at (us : List U) (G : UH) (Q : UK) (E : UXn → UH → Prop) (h : sp_curve_at us G Q E) : trSs (TB cl_curve_at) (GM cl_curve_at) b_curve_at (UD Q E) (startU n_curve_at us) G := by
  obtain ⟨ps, k, rfl, hne, hl, ho, q⟩ := h
  cases ps with
  | nil => exact absurd rfl hne
  | cons a r =>
    simp only [trSs, trS, trE, trT, trX, pl, trA, trO, trC, trI, uBin_s, uUn_s, uVar_s, uC_s, getS, setS, uOp, uAdd, uSub, uMul, uDiv, uMod, uPow, uNeg, uCmp, uEqF, uLt, uLe, uGt, uGe, uIsF, isNonU, uTru, Blt.fn, uLen, uAbs, uMax2, uMin2, uInt, uIx, startU, gam_fn, gam_gl, tab_xcs, tab_sub, UD_nx, UD_rt, UD_bk, UD_ct, UD_ex, spAt, glAt, gls, seqOf, List.map_cons, List.map_nil, List.cons_append, List.nil_append, List.length_cons, List.length_nil, List.replicate, Nat.reduceAdd, Nat.reduceSub, Nat.zero_add, reduceIte, Bool.false_eq_true, Bool.true_eq_false, Bool.false_bne, Bool.true_bne, Bool.not_true, Bool.not_false, Bool.not_not, List.reverse_cons, List.reverse_nil, Option.map_some, Option.map_none, up_same, uTuple, uList, uSet, atI_zero, atI_one, ixN_20, ixN_zero, List.set_cons_zero, uPow, b_curve_at, n_curve_at, cl_curve_at]
    refine ⟨_, rfl, rfl, ?_⟩
    simp only [trSs, trS, trE, trT, trX, pl, trA, trO, trC, trI, uBin_s, uUn_s, uVar_s, uC_s, getS, setS, uOp, uAdd, uSub, uMul, uDiv, uMod, uPow, uNeg, uCmp, uEqF, uLt, uLe, uGt, uGe, uIsF, isNonU, uTru, Blt.fn, uLen, uAbs, uMax2, uMin2, uInt, uIx, startU, gam_fn, gam_gl, tab_xcs, tab_sub, UD_nx, UD_rt, UD_bk, UD_ct, UD_ex, spAt, glAt, gls, seqOf, List.map_cons, List.map_nil, List.cons_append, List.nil_append, List.length_cons, List.length_nil, List.replicate, Nat.reduceAdd, Nat.reduceSub, Nat.zero_add, reduceIte, Bool.false_eq_true, Bool.true_eq_false, Bool.false_bne, Bool.true_bne, Bool.not_true, Bool.not_false, Bool.not_not, List.reverse_cons, List.reverse_nil, Option.map_some, Option.map_none, up_same, uTuple, uList, uSet, atI_zero, atI_one, ixN_20, ixN_zero, List.set_cons_zero, uPow, isI, t5_curve_at, ptU]
    by_cases c : k ≤ a.1
    · simp only [trSs, trS, trE, trT, trX, pl, trA, trO, trC, trI, uBin_s, uUn_s, uVar_s, uC_s, getS, setS, uOp, uAdd, uSub, uMul, uDiv, uMod, uPow, uNeg, uCmp, uEqF, uLt, uLe, uGt, uGe, uIsF, isNonU, uTru, Blt.fn, uLen, uAbs, uMax2, uMin2, uInt, uIx, startU, gam_fn, gam_gl, tab_xcs, tab_sub, UD_nx, UD_rt, UD_bk, UD_ct, UD_ex, spAt, glAt, gls, seqOf, List.map_cons, List.map_nil, List.cons_append, List.nil_append, List.length_cons, List.length_nil, List.replicate, Nat.reduceAdd, Nat.reduceSub, Nat.zero_add, reduceIte, Bool.false_eq_true, Bool.true_eq_false, Bool.false_bne, Bool.true_bne, Bool.not_true, Bool.not_false, Bool.not_not, List.reverse_cons, List.reverse_nil, Option.map_some, Option.map_none, up_same, uTuple, uList, uSet, atI_zero, atI_one, ixN_20, ixN_zero, List.set_cons_zero, uPow, c, decide_true]
      have : curI (a :: r) k = a.2 := by
        cases r with
        | nil => rfl
        | cons b r =>
          show (if k ≤ a.1 then a.2 else _) = _
          rw [if_pos c]
      rw [this] at q
      exact fin.of q
    · simp only [trSs, trS, trE, trT, trX, pl, trA, trO, trC, trI, uBin_s, uUn_s, uVar_s, uC_s, getS, setS, uOp, uAdd, uSub, uMul, uDiv, uMod, uPow, uNeg, uCmp, uEqF, uLt, uLe, uGt, uGe, uIsF, isNonU, uTru, Blt.fn, uLen, uAbs, uMax2, uMin2, uInt, uIx, startU, gam_fn, gam_gl, tab_xcs, tab_sub, UD_nx, UD_rt, UD_bk, UD_ct, UD_ex, spAt, glAt, gls, seqOf, List.map_cons, List.map_nil, List.cons_append, List.nil_append, List.length_cons, List.length_nil, List.replicate, Nat.reduceAdd, Nat.reduceSub, Nat.zero_add, reduceIte, Bool.false_eq_true, Bool.true_eq_false, Bool.false_bne, Bool.true_bne, Bool.not_true, Bool.not_false, Bool.not_not, List.reverse_cons, List.reverse_nil, Option.map_some, Option.map_none, up_same, uTuple, uList, uSet, atI_zero, atI_one, ixN_20, ixN_zero, List.set_cons_zero, uPow, c, decide_false, t4_curve_at, List.length_map]
      simp only [List.length_cons] at hl
      refine ⟨by unfold small62; omega, by unfold small62; omega, ?_⟩
      rw [rangeU_map, show ((((r.length + 1 : Nat) : Int) - 1).toNat) = r.length by omega]
      refine l_curve_at (ps := a :: r) (V := curI (a :: r) k) _ (fin.of q) r [] a none none none none none rfl ho (by omega) rfl fun b hb hv o2 o3 o4 o5 o6 => ?_
      have e9 : atI ((a :: r).map ptU) (-1) = some (ptU b) := atI_m1 (by rw [List.getLast?_map, hb]; rfl)
      rw [show List.map ptU (a :: r) = ptU a :: List.map ptU r from rfl] at e9
      simp only [trSs, trS, trE, trT, trX, pl, trA, trO, trC, trI, uBin_s, uUn_s, uVar_s, uC_s, getS, setS, uOp, uAdd, uSub, uMul, uDiv, uMod, uPow, uNeg, uCmp, uEqF, uLt, uLe, uGt, uGe, uIsF, isNonU, uTru, Blt.fn, uLen, uAbs, uMax2, uMin2, uInt, uIx, startU, gam_fn, gam_gl, tab_xcs, tab_sub, UD_nx, UD_rt, UD_bk, UD_ct, UD_ex, spAt, glAt, gls, seqOf, List.map_cons, List.map_nil, List.cons_append, List.nil_append, List.length_cons, List.length_nil, List.replicate, Nat.reduceAdd, Nat.reduceSub, Nat.zero_add, reduceIte, Bool.false_eq_true, Bool.true_eq_false, Bool.false_bne, Bool.true_bne, Bool.not_true, Bool.not_false, Bool.not_not, List.reverse_cons, List.reverse_nil, Option.map_some, Option.map_none, up_same, uTuple, uList, uSet, atI_zero, atI_one, ixN_20, ixN_zero, List.set_cons_zero, uPow, t3_curve_at, e9]
      simp only [trSs, trS, trE, trT, trX, pl, trA, trO, trC, trI, uBin_s, uUn_s, uVar_s, uC_s, getS, setS, uOp, uAdd, uSub, uMul, uDiv, uMod, uPow, uNeg, uCmp, uEqF, uLt, uLe, uGt, uGe, uIsF, isNonU, uTru, Blt.fn, uLen, uAbs, uMax2, uMin2, uInt, uIx, startU, gam_fn, gam_gl, tab_xcs, tab_sub, UD_nx, UD_rt, UD_bk, UD_ct, UD_ex, spAt, glAt, gls, seqOf, List.map_cons, List.map_nil, List.cons_append, List.nil_append, List.length_cons, List.length_nil, List.replicate, Nat.reduceAdd, Nat.reduceSub, Nat.zero_add, reduceIte, Bool.false_eq_true, Bool.true_eq_false, Bool.false_bne, Bool.true_bne, Bool.not_true, Bool.not_false, Bool.not_not, List.reverse_cons, List.reverse_nil, Option.map_some, Option.map_none, up_same, uTuple, uList, uSet, atI_zero, atI_one, ixN_20, ixN_zero, List.set_cons_zero, uPow, ptU]
      rw [hv]
      exact fin.of q
/-! ### cut -/
def highB (i j n : Int) : Bool := decide (i ≤ j) && decide (j ≤ n)
theorem highB_f {i j n : Int} (h : j < i ∨ n < j) : highB i j n = false := by
  unfold highB
  rcases h with h | h
  · rw [decide_eq_false (by omega), Bool.false_and]
  · rw [Bool.and_eq_false_iff]
    exact .inr (decide_eq_false (by omega))
theorem highB_t {i j n : Int} (h1 : i ≤ j) (h2 : j ≤ n) : highB i j n = true := by
  unfold highB
  rw [decide_eq_true h1, decide_eq_true h2]
  rfl
def cutW (s lo hi : U) : Option Str := if isS s = true then (if isN lo = true then (if (isN hi && highB (intV lo) (intV hi) (tupL s).length) = true then none else some "high") else some "low") else some "sound"
def sp_cut : USp := fun us G Q E => ∃ s lo hi, us = [s, lo, hi] ∧ okS G s ∧ tyS G lo ∧ tyS G hi ∧ (match cutW s lo hi with
  | some w => E (xnu w) G
  | none => Q (.tup (cutU (tupL s) (some (intV lo)) (some (intV hi)))) G)
def cl_cut : List (Str × USp) := [("is_sound", sp_is_sound), ("is_number", sp_is_number)]
theorem isS_tup {s : U} (h : isS s = true) : ∃ ws, s = .tup ws ∧ ws.all isW = true := by
  cases s with
  | tup ws => exact ⟨ws, rfl, h⟩
  | _ => cases h
theorem isN_int {u : U} (h : isN u = true) : ∃ i, u = .int i ∧ 0 ≤ i := by
  cases u with
  | int i => exact ⟨i, rfl, of_decide_eq_true h⟩
  | _ => cases h
theorem w_cut (us : List U) (G : UH) (Q : UK) (E : UXn → UH → Prop) (h : sp_cut us G Q E) : trSs (TB cl_cut) (GM cl_cut) b_cut (UD Q E) (startU n_cut us) G := by
  obtain ⟨s, lo, hi, rfl, hs, hlo, hhi, q⟩ := h
  simp only [trSs, trS, trE, trT, trX, pl, trA, trO, trC, trI, uBin_s, uUn_s, uVar_s, uC_s, getS, setS, uOp, uAdd, uSub, uMul, uDiv, uMod, uPow, uNeg, uCmp, uEqF, uLt, uLe, uGt, uGe, uIsF, isNonU, uTru, Blt.fn, uLen, uAbs, uMax2, uMin2, uInt, uIx, startU, gam_fn, gam_gl, tab_xcs, tab_sub, UD_nx, UD_rt, UD_bk, UD_ct, UD_ex, spAt, glAt, gls, seqOf, List.map_cons, List.map_nil, List.cons_append, List.nil_append, List.length_cons, List.length_nil, List.replicate, Nat.reduceAdd, Nat.reduceSub, Nat.zero_add, reduceIte, Bool.false_eq_true, Bool.true_eq_false, Bool.false_bne, Bool.true_bne, Bool.not_true, Bool.not_false, Bool.not_not, List.reverse_cons, List.reverse_nil, Option.map_some, Option.map_none, up_same, uTuple, uList, uSet, atI_zero, atI_one, ixN_20, ixN_zero, List.set_cons_zero, uPow, b_cut, n_cut, cl_cut]
  refine ⟨s, rfl, hs, ?_⟩
  unfold cutW at q
  cases e : isS s with
  | false =>
    rw [e] at q
    simp only [trSs, trS, trE, trT, trX, pl, trA, trO, trC, trI, uBin_s, uUn_s, uVar_s, uC_s, getS, setS, uOp, uAdd, uSub, uMul, uDiv, uMod, uPow, uNeg, uCmp, uEqF, uLt, uLe, uGt, uGe, uIsF, isNonU, uTru, Blt.fn, uLen, uAbs, uMax2, uMin2, uInt, uIx, startU, gam_fn, gam_gl, tab_xcs, tab_sub, UD_nx, UD_rt, UD_bk, UD_ct, UD_ex, spAt, glAt, gls, seqOf, List.map_cons, List.map_nil, List.cons_append, List.nil_append, List.length_cons, List.length_nil, List.replicate, Nat.reduceAdd, Nat.reduceSub, Nat.zero_add, reduceIte, Bool.false_eq_true, Bool.true_eq_false, Bool.false_bne, Bool.true_bne, Bool.not_true, Bool.not_false, Bool.not_not, List.reverse_cons, List.reverse_nil, Option.map_some, Option.map_none, up_same, uTuple, uList, uSet, atI_zero, atI_one, ixN_20, ixN_zero, List.set_cons_zero, uPow]
    exact ⟨rfl, fin.of q⟩
  | true =>
    rw [e, if_pos rfl] at q
    simp only [trSs, trS, trE, trT, trX, pl, trA, trO, trC, trI, uBin_s, uUn_s, uVar_s, uC_s, getS, setS, uOp, uAdd, uSub, uMul, uDiv, uMod, uPow, uNeg, uCmp, uEqF, uLt, uLe, uGt, uGe, uIsF, isNonU, uTru, Blt.fn, uLen, uAbs, uMax2, uMin2, uInt, uIx, startU, gam_fn, gam_gl, tab_xcs, tab_sub, UD_nx, UD_rt, UD_bk, UD_ct, UD_ex, spAt, glAt, gls, seqOf, List.map_cons, List.map_nil, List.cons_append, List.nil_append, List.length_cons, List.length_nil, List.replicate, Nat.reduceAdd, Nat.reduceSub, Nat.zero_add, reduceIte, Bool.false_eq_true, Bool.true_eq_false, Bool.false_bne, Bool.true_bne, Bool.not_true, Bool.not_false, Bool.not_not, List.reverse_cons, List.reverse_nil, Option.map_some, Option.map_none, up_same, uTuple, uList, uSet, atI_zero, atI_one, ixN_20, ixN_zero, List.set_cons_zero, uPow, t3_cut, cl_cut]
    refine ⟨lo, rfl, hlo, ?_⟩
    cases e2 : isN lo with
    | false =>
      rw [e2] at q
      simp only [trSs, trS, trE, trT, trX, pl, trA, trO, trC, trI, uBin_s, uUn_s, uVar_s, uC_s, getS, setS, uOp, uAdd, uSub, uMul, uDiv, uMod, uPow, uNeg, uCmp, uEqF, uLt, uLe, uGt, uGe, uIsF, isNonU, uTru, Blt.fn, uLen, uAbs, uMax2, uMin2, uInt, uIx, startU, gam_fn, gam_gl, tab_xcs, tab_sub, UD_nx, UD_rt, UD_bk, UD_ct, UD_ex, spAt, glAt, gls, seqOf, List.map_cons, List.map_nil, List.cons_append, List.nil_append, List.length_cons, List.length_nil, List.replicate, Nat.reduceAdd, Nat.reduceSub, Nat.zero_add, reduceIte, Bool.false_eq_true, Bool.true_eq_false, Bool.false_bne, Bool.true_bne, Bool.not_true, Bool.not_false, Bool.not_not, List.reverse_cons, List.reverse_nil, Option.map_some, Option.map_none, up_same, uTuple, uList, uSet, atI_zero, atI_one, ixN_20, ixN_zero, List.set_cons_zero, uPow]
      exact ⟨rfl, fin.of q⟩
    | true =>
      rw [e2, if_pos rfl] at q
      obtain ⟨ws, rfl, hw⟩ := isS_tup e
      obtain ⟨i, rfl, i0⟩ := isN_int e2
      simp only [trSs, trS, trE, trT, trX, pl, trA, trO, trC, trI, uBin_s, uUn_s, uVar_s, uC_s, getS, setS, uOp, uAdd, uSub, uMul, uDiv, uMod, uPow, uNeg, uCmp, uEqF, uLt, uLe, uGt, uGe, uIsF, isNonU, uTru, Blt.fn, uLen, uAbs, uMax2, uMin2, uInt, uIx, startU, gam_fn, gam_gl, tab_xcs, tab_sub, UD_nx, UD_rt, UD_bk, UD_ct, UD_ex, spAt, glAt, gls, seqOf, List.map_cons, List.map_nil, List.cons_append, List.nil_append, List.length_cons, List.length_nil, List.replicate, Nat.reduceAdd, Nat.reduceSub, Nat.zero_add, reduceIte, Bool.false_eq_true, Bool.true_eq_false, Bool.false_bne, Bool.true_bne, Bool.not_true, Bool.not_false, Bool.not_not, List.reverse_cons, List.reverse_nil, Option.map_some, Option.map_none, up_same, uTuple, uList, uSet, atI_zero, atI_one, ixN_20, ixN_zero, List.set_cons_zero, uPow, t2_cut, cl_cut]
      refine ⟨hi, rfl, hhi, ?_⟩
      cases e3 : isN hi with
      | false =>
        rw [e3] at q
        simp only [trSs, trS, trE, trT, trX, pl, trA, trO, trC, trI, uBin_s, uUn_s, uVar_s, uC_s, getS, setS, uOp, uAdd, uSub, uMul, uDiv, uMod, uPow, uNeg, uCmp, uEqF, uLt, uLe, uGt, uGe, uIsF, isNonU, uTru, Blt.fn, uLen, uAbs, uMax2, uMin2, uInt, uIx, startU, gam_fn, gam_gl, tab_xcs, tab_sub, UD_nx, UD_rt, UD_bk, UD_ct, UD_ex, spAt, glAt, gls, seqOf, List.map_cons, List.map_nil, List.cons_append, List.nil_append, List.length_cons, List.length_nil, List.replicate, Nat.reduceAdd, Nat.reduceSub, Nat.zero_add, reduceIte, Bool.false_eq_true, Bool.true_eq_false, Bool.false_bne, Bool.true_bne, Bool.not_true, Bool.not_false, Bool.not_not, List.reverse_cons, List.reverse_nil, Option.map_some, Option.map_none, up_same, uTuple, uList, uSet, atI_zero, atI_one, ixN_20, ixN_zero, List.set_cons_zero, uPow]
        exact ⟨rfl, fin.of q⟩
      | true =>
        obtain ⟨j, rfl, j0⟩ := isN_int e3
        rw [e3, Bool.true_and] at q
        simp only [trSs, trS, trE, trT, trX, pl, trA, trO, trC, trI, uBin_s, uUn_s, uVar_s, uC_s, getS, setS, uOp, uAdd, uSub, uMul, uDiv, uMod, uPow, uNeg, uCmp, uEqF, uLt, uLe, uGt, uGe, uIsF, isNonU, uTru, Blt.fn, uLen, uAbs, uMax2, uMin2, uInt, uIx, startU, gam_fn, gam_gl, tab_xcs, tab_sub, UD_nx, UD_rt, UD_bk, UD_ct, UD_ex, spAt, glAt, gls, seqOf, List.map_cons, List.map_nil, List.cons_append, List.nil_append, List.length_cons, List.length_nil, List.replicate, Nat.reduceAdd, Nat.reduceSub, Nat.zero_add, reduceIte, Bool.false_eq_true, Bool.true_eq_false, Bool.false_bne, Bool.true_bne, Bool.not_true, Bool.not_false, Bool.not_not, List.reverse_cons, List.reverse_nil, Option.map_some, Option.map_none, up_same, uTuple, uList, uSet, atI_zero, atI_one, ixN_20, ixN_zero, List.set_cons_zero, uPow]
        by_cases c1 : j < i
        · rw [show highB (intV (.int i)) (intV (.int j)) ((tupL (.tup ws)).length : Int) = false from highB_f (.inl c1)] at q
          simp only [trSs, trS, trE, trT, trX, pl, trA, trO, trC, trI, uBin_s, uUn_s, uVar_s, uC_s, getS, setS, uOp, uAdd, uSub, uMul, uDiv, uMod, uPow, uNeg, uCmp, uEqF, uLt, uLe, uGt, uGe, uIsF, isNonU, uTru, Blt.fn, uLen, uAbs, uMax2, uMin2, uInt, uIx, startU, gam_fn, gam_gl, tab_xcs, tab_sub, UD_nx, UD_rt, UD_bk, UD_ct, UD_ex, spAt, glAt, gls, seqOf, List.map_cons, List.map_nil, List.cons_append, List.nil_append, List.length_cons, List.length_nil, List.replicate, Nat.reduceAdd, Nat.reduceSub, Nat.zero_add, reduceIte, Bool.false_eq_true, Bool.true_eq_false, Bool.false_bne, Bool.true_bne, Bool.not_true, Bool.not_false, Bool.not_not, List.reverse_cons, List.reverse_nil, Option.map_some, Option.map_none, up_same, uTuple, uList, uSet, atI_zero, atI_one, ixN_20, ixN_zero, List.set_cons_zero, uPow, c1, decide_true]
          exact ⟨rfl, fin.of q⟩
        · simp only [trSs, trS, trE, trT, trX, pl, trA, trO, trC, trI, uBin_s, uUn_s, uVar_s, uC_s, getS, setS, uOp, uAdd, uSub, uMul, uDiv, uMod, uPow, uNeg, uCmp, uEqF, uLt, uLe, uGt, uGe, uIsF, isNonU, uTru, Blt.fn, uLen, uAbs, uMax2, uMin2, uInt, uIx, startU, gam_fn, gam_gl, tab_xcs, tab_sub, UD_nx, UD_rt, UD_bk, UD_ct, UD_ex, spAt, glAt, gls, seqOf, List.map_cons, List.map_nil, List.cons_append, List.nil_append, List.length_cons, List.length_nil, List.replicate, Nat.reduceAdd, Nat.reduceSub, Nat.zero_add, reduceIte, Bool.false_eq_true, Bool.true_eq_false, Bool.false_bne, Bool.true_bne, Bool.not_true, Bool.not_false, Bool.not_not, List.reverse_cons, List.reverse_nil, Option.map_some, Option.map_none, up_same, uTuple, uList, uSet, atI_zero, atI_one, ixN_20, ixN_zero, List.set_cons_zero, uPow, c1, decide_false]
          by_cases c2 : (ws.length : Int) < j
          · rw [show highB (intV (.int i)) (intV (.int j)) ((tupL (.tup ws)).length : Int) = false from highB_f (.inr c2)] at q
            simp only [trSs, trS, trE, trT, trX, pl, trA, trO, trC, trI, uBin_s, uUn_s, uVar_s, uC_s, getS, setS, uOp, uAdd, uSub, uMul, uDiv, uMod, uPow, uNeg, uCmp, uEqF, uLt, uLe, uGt, uGe, uIsF, isNonU, uTru, Blt.fn, uLen, uAbs, uMax2, uMin2, uInt, uIx, startU, gam_fn, gam_gl, tab_xcs, tab_sub, UD_nx, UD_rt, UD_bk, UD_ct, UD_ex, spAt, glAt, gls, seqOf, List.map_cons, List.map_nil, List.cons_append, List.nil_append, List.length_cons, List.length_nil, List.replicate, Nat.reduceAdd, Nat.reduceSub, Nat.zero_add, reduceIte, Bool.false_eq_true, Bool.true_eq_false, Bool.false_bne, Bool.true_bne, Bool.not_true, Bool.not_false, Bool.not_not, List.reverse_cons, List.reverse_nil, Option.map_some, Option.map_none, up_same, uTuple, uList, uSet, atI_zero, atI_one, ixN_20, ixN_zero, List.set_cons_zero, uPow, c2, decide_true]
            exact ⟨rfl, fin.of q⟩
          · rw [show highB (intV (.int i)) (intV (.int j)) ((tupL (.tup ws)).length : Int) = true from highB_t (Int.not_lt.mp c1) (Int.not_lt.mp c2)] at q
            simp only [trSs, trS, trE, trT, trX, pl, trA, trO, trC, trI, uBin_s, uUn_s, uVar_s, uC_s, getS, setS, uOp, uAdd, uSub, uMul, uDiv, uMod, uPow, uNeg, uCmp, uEqF, uLt, uLe, uGt, uGe, uIsF, isNonU, uTru, Blt.fn, uLen, uAbs, uMax2, uMin2, uInt, uIx, startU, gam_fn, gam_gl, tab_xcs, tab_sub, UD_nx, UD_rt, UD_bk, UD_ct, UD_ex, spAt, glAt, gls, seqOf, List.map_cons, List.map_nil, List.cons_append, List.nil_append, List.length_cons, List.length_nil, List.replicate, Nat.reduceAdd, Nat.reduceSub, Nat.zero_add, reduceIte, Bool.false_eq_true, Bool.true_eq_false, Bool.false_bne, Bool.true_bne, Bool.not_true, Bool.not_false, Bool.not_not, List.reverse_cons, List.reverse_nil, Option.map_some, Option.map_none, up_same, uTuple, uList, uSet, atI_zero, atI_one, ixN_20, ixN_zero, List.set_cons_zero, uPow, c2, decide_false, t1_cut, uSl]
            exact fin.of q
/-! ### joined -/
def isJ : U → Bool
  | .tup us => us.all isS
  | _ => false
def sp_joined : USp := fun us G Q E => ∃ u, us = [u] ∧ ok2 G u ∧ (tupL u).length ≤ 100000 ∧ (if isJ u = true then ((tupL u).flatMap tupL).length ≤ 100000 ∧ Q (.tup ((tupL u).flatMap tupL)) G else E (xnu "sounds") G)
def cl_joined : List (Str × USp) := [("is_sound", sp_is_sound)]
theorem w_joined (us : List U) (G : UH) (Q : UK) (E : UXn → UH → Prop) (h : sp_joined us G Q E) : trSs (TB cl_joined) (GM cl_joined) b_joined (UD Q E) (startU n_joined us) G := by
  obtain ⟨u, rfl, hu, hl, q⟩ := h
  have lg := line_ge
  simp only [trSs, trS, trE, trT, trX, pl, trA, trO, trC, trI, uBin_s, uUn_s, uVar_s, uC_s, getS, setS, uOp, uAdd, uSub, uMul, uDiv, uMod, uPow, uNeg, uCmp, uEqF, uLt, uLe, uGt, uGe, uIsF, isNonU, uTru, Blt.fn, uLen, uAbs, uMax2, uMin2, uInt, uIx, startU, gam_fn, gam_gl, tab_xcs, tab_sub, UD_nx, UD_rt, UD_bk, UD_ct, UD_ex, spAt, glAt, gls, seqOf, List.map_cons, List.map_nil, List.cons_append, List.nil_append, List.length_cons, List.length_nil, List.replicate, Nat.reduceAdd, Nat.reduceSub, Nat.zero_add, reduceIte, Bool.false_eq_true, Bool.true_eq_false, Bool.false_bne, Bool.true_bne, Bool.not_true, Bool.not_false, Bool.not_not, List.reverse_cons, List.reverse_nil, Option.map_some, Option.map_none, up_same, uTuple, uList, uSet, atI_zero, atI_one, ixN_20, ixN_zero, List.set_cons_zero, uPow, b_joined, n_joined]
  refine isi_tuple hu.1 ?_
  cases u with
  | tup ws =>
    simp only [tupL] at hl q
    simp only [trSs, trS, trE, trT, trX, pl, trA, trO, trC, trI, uBin_s, uUn_s, uVar_s, uC_s, getS, setS, uOp, uAdd, uSub, uMul, uDiv, uMod, uPow, uNeg, uCmp, uEqF, uLt, uLe, uGt, uGe, uIsF, isNonU, uTru, Blt.fn, uLen, uAbs, uMax2, uMin2, uInt, uIx, startU, gam_fn, gam_gl, tab_xcs, tab_sub, UD_nx, UD_rt, UD_bk, UD_ct, UD_ex, spAt, glAt, gls, seqOf, List.map_cons, List.map_nil, List.cons_append, List.nil_append, List.length_cons, List.length_nil, List.replicate, Nat.reduceAdd, Nat.reduceSub, Nat.zero_add, reduceIte, Bool.false_eq_true, Bool.true_eq_false, Bool.false_bne, Bool.true_bne, Bool.not_true, Bool.not_false, Bool.not_not, List.reverse_cons, List.reverse_nil, Option.map_some, Option.map_none, up_same, uTuple, uList, uSet, atI_zero, atI_one, ixN_20, ixN_zero, List.set_cons_zero, uPow, kT]
    intro p hp
    refine lcU_map (f := fun x => .bl (isS x)) (fun _ => depsNil) ws [] (by simp; omega) ?_ ?_
    · intro y hy acc K1 K0 k1
      simp only [trSs, trS, trE, trT, trX, pl, trA, trO, trC, trI, uBin_s, uUn_s, uVar_s, uC_s, getS, setS, uOp, uAdd, uSub, uMul, uDiv, uMod, uPow, uNeg, uCmp, uEqF, uLt, uLe, uGt, uGe, uIsF, isNonU, uTru, Blt.fn, uLen, uAbs, uMax2, uMin2, uInt, uIx, startU, gam_fn, gam_gl, tab_xcs, tab_sub, UD_nx, UD_rt, UD_bk, UD_ct, UD_ex, spAt, glAt, gls, seqOf, List.map_cons, List.map_nil, List.cons_append, List.nil_append, List.length_cons, List.length_nil, List.replicate, Nat.reduceAdd, Nat.reduceSub, Nat.zero_add, reduceIte, Bool.false_eq_true, Bool.true_eq_false, Bool.false_bne, Bool.true_bne, Bool.not_true, Bool.not_false, Bool.not_not, List.reverse_cons, List.reverse_nil, Option.map_some, Option.map_none, up_same, uTuple, uList, uSet, atI_zero, atI_one, ixN_20, ixN_zero, List.set_cons_zero, uPow, slotsG, slotsGs, wipeU, trG, cl_joined]
      exact ⟨y, rfl, okS_le (.new hp) (hu.2 ws rfl y hy), k1⟩
    · simp only [trSs, trS, trE, trT, trX, pl, trA, trO, trC, trI, uBin_s, uUn_s, uVar_s, uC_s, getS, setS, uOp, uAdd, uSub, uMul, uDiv, uMod, uPow, uNeg, uCmp, uEqF, uLt, uLe, uGt, uGe, uIsF, isNonU, uTru, Blt.fn, uLen, uAbs, uMax2, uMin2, uInt, uIx, startU, gam_fn, gam_gl, tab_xcs, tab_sub, UD_nx, UD_rt, UD_bk, UD_ct, UD_ex, spAt, glAt, gls, seqOf, List.map_cons, List.map_nil, List.cons_append, List.nil_append, List.length_cons, List.length_nil, List.replicate, Nat.reduceAdd, Nat.reduceSub, Nat.zero_add, reduceIte, Bool.false_eq_true, Bool.true_eq_false, Bool.false_bne, Bool.true_bne, Bool.not_true, Bool.not_false, Bool.not_not, List.reverse_cons, List.reverse_nil, Option.map_some, Option.map_none, up_same, uTuple, uList, uSet, atI_zero, atI_one, ixN_20, ixN_zero, List.set_cons_zero, uPow, uAll, uBlL]
      have e1 : (ws.map fun x => U.bl (isS x)) = (ws.map isS).map U.bl := by simp
      rw [e1, blsOf_map]
      simp only [trSs, trS, trE, trT, trX, pl, trA, trO, trC, trI, uBin_s, uUn_s, uVar_s, uC_s, getS, setS, uOp, uAdd, uSub, uMul, uDiv, uMod, uPow, uNeg, uCmp, uEqF, uLt, uLe, uGt, uGe, uIsF, isNonU, uTru, Blt.fn, uLen, uAbs, uMax2, uMin2, uInt, uIx, startU, gam_fn, gam_gl, tab_xcs, tab_sub, UD_nx, UD_rt, UD_bk, UD_ct, UD_ex, spAt, glAt, gls, seqOf, List.map_cons, List.map_nil, List.cons_append, List.nil_append, List.length_cons, List.length_nil, List.replicate, Nat.reduceAdd, Nat.reduceSub, Nat.zero_add, reduceIte, Bool.false_eq_true, Bool.true_eq_false, Bool.false_bne, Bool.true_bne, Bool.not_true, Bool.not_false, Bool.not_not, List.reverse_cons, List.reverse_nil, Option.map_some, Option.map_none, up_same, uTuple, uList, uSet, atI_zero, atI_one, ixN_20, ixN_zero, List.set_cons_zero, uPow]
      have e2 : (ws.map isS).all id = ws.all isS := by rw [List.all_map]; rfl
      rw [e2]
      have e3 : isJ (.tup ws) = ws.all isS := rfl
      rw [e3] at q
      cases e4 : ws.all isS with
      | false =>
        rw [e4, if_neg (by decide)] at q
        simp only [trSs, trS, trE, trT, trX, pl, trA, trO, trC, trI, uBin_s, uUn_s, uVar_s, uC_s, getS, setS, uOp, uAdd, uSub, uMul, uDiv, uMod, uPow, uNeg, uCmp, uEqF, uLt, uLe, uGt, uGe, uIsF, isNonU, uTru, Blt.fn, uLen, uAbs, uMax2, uMin2, uInt, uIx, startU, gam_fn, gam_gl, tab_xcs, tab_sub, UD_nx, UD_rt, UD_bk, UD_ct, UD_ex, spAt, glAt, gls, seqOf, List.map_cons, List.map_nil, List.cons_append, List.nil_append, List.length_cons, List.length_nil, List.replicate, Nat.reduceAdd, Nat.reduceSub, Nat.zero_add, reduceIte, Bool.false_eq_true, Bool.true_eq_false, Bool.false_bne, Bool.true_bne, Bool.not_true, Bool.not_false, Bool.not_not, List.reverse_cons, List.reverse_nil, Option.map_some, Option.map_none, up_same, uTuple, uList, uSet, atI_zero, atI_one, ixN_20, ixN_zero, List.set_cons_zero, uPow]
        exact ⟨rfl, G, .new hp, q⟩
      | true =>
        rw [e4, if_pos rfl] at q
        simp only [trSs, trS, trE, trT, trX, pl, trA, trO, trC, trI, uBin_s, uUn_s, uVar_s, uC_s, getS, setS, uOp, uAdd, uSub, uMul, uDiv, uMod, uPow, uNeg, uCmp, uEqF, uLt, uLe, uGt, uGe, uIsF, isNonU, uTru, Blt.fn, uLen, uAbs, uMax2, uMin2, uInt, uIx, startU, gam_fn, gam_gl, tab_xcs, tab_sub, UD_nx, UD_rt, UD_bk, UD_ct, UD_ex, spAt, glAt, gls, seqOf, List.map_cons, List.map_nil, List.cons_append, List.nil_append, List.length_cons, List.length_nil, List.replicate, Nat.reduceAdd, Nat.reduceSub, Nat.zero_add, reduceIte, Bool.false_eq_true, Bool.true_eq_false, Bool.false_bne, Bool.true_bne, Bool.not_true, Bool.not_false, Bool.not_not, List.reverse_cons, List.reverse_nil, Option.map_some, Option.map_none, up_same, uTuple, uList, uSet, atI_zero, atI_one, ixN_20, ixN_zero, List.set_cons_zero, uPow, t1_joined]
        intro p2 hp2
        refine lc2U_pure (f := tupL) (fun _ => depsNil) ws [] (by simp only [List.length_nil]; omega) ?_ ?_
        · intro y hy acc K K0 hl2 hK
          obtain ⟨zs, rfl, hz⟩ := isS_tup (List.all_eq_true.mp e4 y hy)
          simp only [trSs, trS, trE, trT, trX, pl, trA, trO, trC, trI, uBin_s, uUn_s, uVar_s, uC_s, getS, setS, uOp, uAdd, uSub, uMul, uDiv, uMod, uPow, uNeg, uCmp, uEqF, uLt, uLe, uGt, uGe, uIsF, isNonU, uTru, Blt.fn, uLen, uAbs, uMax2, uMin2, uInt, uIx, startU, gam_fn, gam_gl, tab_xcs, tab_sub, UD_nx, UD_rt, UD_bk, UD_ct, UD_ex, spAt, glAt, gls, seqOf, List.map_cons, List.map_nil, List.cons_append, List.nil_append, List.length_cons, List.length_nil, List.replicate, Nat.reduceAdd, Nat.reduceSub, Nat.zero_add, reduceIte, Bool.false_eq_true, Bool.true_eq_false, Bool.false_bne, Bool.true_bne, Bool.not_true, Bool.not_false, Bool.not_not, List.reverse_cons, List.reverse_nil, Option.map_some, Option.map_none, up_same, uTuple, uList, uSet, atI_zero, atI_one, ixN_20, ixN_zero, List.set_cons_zero, uPow, slotsG, slotsGs, wipeU, trG]
          refine lcK_pure (c := fun _ => true) (f := id) (fun _ => depsNil) _ acc (by simpa [tupL] using hl2) ?_ ?_
          · intro z hz acc K1 K0 k1 _
            simp only [trSs, trS, trE, trT, trX, pl, trA, trO, trC, trI, uBin_s, uUn_s, uVar_s, uC_s, getS, setS, uOp, uAdd, uSub, uMul, uDiv, uMod, uPow, uNeg, uCmp, uEqF, uLt, uLe, uGt, uGe, uIsF, isNonU, uTru, Blt.fn, uLen, uAbs, uMax2, uMin2, uInt, uIx, startU, gam_fn, gam_gl, tab_xcs, tab_sub, UD_nx, UD_rt, UD_bk, UD_ct, UD_ex, spAt, glAt, gls, seqOf, List.map_cons, List.map_nil, List.cons_append, List.nil_append, List.length_cons, List.length_nil, List.replicate, Nat.reduceAdd, Nat.reduceSub, Nat.zero_add, reduceIte, Bool.false_eq_true, Bool.true_eq_false, Bool.false_bne, Bool.true_bne, Bool.not_true, Bool.not_false, Bool.not_not, List.reverse_cons, List.reverse_nil, Option.map_some, Option.map_none, up_same, uTuple, uList, uSet, atI_zero, atI_one, ixN_20, ixN_zero, List.set_cons_zero, uPow, slotsG, slotsGs, wipeU, trG]
            exact k1 rfl
          · rw [List.filter_eq_self.mpr (fun _ _ => rfl), List.map_id]
            exact hK
        · simp only [trSs, trS, trE, trT, trX, pl, trA, trO, trC, trI, uBin_s, uUn_s, uVar_s, uC_s, getS, setS, uOp, uAdd, uSub, uMul, uDiv, uMod, uPow, uNeg, uCmp, uEqF, uLt, uLe, uGt, uGe, uIsF, isNonU, uTru, Blt.fn, uLen, uAbs, uMax2, uMin2, uInt, uIx, startU, gam_fn, gam_gl, tab_xcs, tab_sub, UD_nx, UD_rt, UD_bk, UD_ct, UD_ex, spAt, glAt, gls, seqOf, List.map_cons, List.map_nil, List.cons_append, List.nil_append, List.length_cons, List.length_nil, List.replicate, Nat.reduceAdd, Nat.reduceSub, Nat.zero_add, reduceIte, Bool.false_eq_true, Bool.true_eq_false, Bool.false_bne, Bool.true_bne, Bool.not_true, Bool.not_false, Bool.not_not, List.reverse_cons, List.reverse_nil, Option.map_some, Option.map_none, up_same, uTuple, uList, uSet, atI_zero, atI_one, ixN_20, ixN_zero, List.set_cons_zero, uPow]
          exact ⟨G, (Le.new hp).trans (.new hp2), q.2⟩
  | _ =>
    simp only [trSs, trS, trE, trT, trX, pl, trA, trO, trC, trI, uBin_s, uUn_s, uVar_s, uC_s, getS, setS, uOp, uAdd, uSub, uMul, uDiv, uMod, uPow, uNeg, uCmp, uEqF, uLt, uLe, uGt, uGe, uIsF, isNonU, uTru, Blt.fn, uLen, uAbs, uMax2, uMin2, uInt, uIx, startU, gam_fn, gam_gl, tab_xcs, tab_sub, UD_nx, UD_rt, UD_bk, UD_ct, UD_ex, spAt, glAt, gls, seqOf, List.map_cons, List.map_nil, List.cons_append, List.nil_append, List.length_cons, List.length_nil, List.replicate, Nat.reduceAdd, Nat.reduceSub, Nat.zero_add, reduceIte, Bool.false_eq_true, Bool.true_eq_false, Bool.false_bne, Bool.true_bne, Bool.not_true, Bool.not_false, Bool.not_not, List.reverse_cons, List.reverse_nil, Option.map_some, Option.map_none, up_same, uTuple, uList, uSet, atI_zero, atI_one, ixN_20, ixN_zero, List.set_cons_zero, uPow, kT]
    exact ⟨rfl, fin.of q⟩
/-! ### _is_sound_part -/
def isPart : U → Bool
  | .tup [a, b] => isS a && isN b
  | _ => false
def sp__is_sound_part : USp := fun us G Q _ => ∃ u, us = [u] ∧ ok2 G u ∧ Q (.bl (isPart u)) G
def cl__is_sound_part : List (Str × USp) := [("is_number", sp_is_number), ("is_sound", sp_is_sound)]
theorem w__is_sound_part (us : List U) (G : UH) (Q : UK) (E : UXn → UH → Prop) (h : sp__is_sound_part us G Q E) : trSs (TB cl__is_sound_part) (GM cl__is_sound_part) b__is_sound_part (UD Q E) (startU n__is_sound_part us) G := by
  obtain ⟨u, rfl, hu, q⟩ := h
  simp only [trSs, trS, trE, trT, trX, pl, trA, trO, trC, trI, uBin_s, uUn_s, uVar_s, uC_s, getS, setS, uOp, uAdd, uSub, uMul, uDiv, uMod, uPow, uNeg, uCmp, uEqF, uLt, uLe, uGt, uGe, uIsF, isNonU, uTru, Blt.fn, uLen, uAbs, uMax2, uMin2, uInt, uIx, startU, gam_fn, gam_gl, tab_xcs, tab_sub, UD_nx, UD_rt, UD_bk, UD_ct, UD_ex, spAt, glAt, gls, seqOf, List.map_cons, List.map_nil, List.cons_append, List.nil_append, List.length_cons, List.length_nil, List.replicate, Nat.reduceAdd, Nat.reduceSub, Nat.zero_add, reduceIte, Bool.false_eq_true, Bool.true_eq_false, Bool.false_bne, Bool.true_bne, Bool.not_true, Bool.not_false, Bool.not_not, List.reverse_cons, List.reverse_nil, Option.map_some, Option.map_none, up_same, uTuple, uList, uSet, atI_zero, atI_one, ixN_20, ixN_zero, List.set_cons_zero, uPow, b__is_sound_part, n__is_sound_part]
  refine isi_tuple hu.1 ?_
  by_cases hp : ∃ a b, u = .tup [a, b]
  · obtain ⟨a, b, rfl⟩ := hp
    have ta := hu.2 _ rfl a (by simp)
    have tb := hu.2 _ rfl b (by simp)
    simp only [trSs, trS, trE, trT, trX, pl, trA, trO, trC, trI, uBin_s, uUn_s, uVar_s, uC_s, getS, setS, uOp, uAdd, uSub, uMul, uDiv, uMod, uPow, uNeg, uCmp, uEqF, uLt, uLe, uGt, uGe, uIsF, isNonU, uTru, Blt.fn, uLen, uAbs, uMax2, uMin2, uInt, uIx, startU, gam_fn, gam_gl, tab_xcs, tab_sub, UD_nx, UD_rt, UD_bk, UD_ct, UD_ex, spAt, glAt, gls, seqOf, List.map_cons, List.map_nil, List.cons_append, List.nil_append, List.length_cons, List.length_nil, List.replicate, Nat.reduceAdd, Nat.reduceSub, Nat.zero_add, reduceIte, Bool.false_eq_true, Bool.true_eq_false, Bool.false_bne, Bool.true_bne, Bool.not_true, Bool.not_false, Bool.not_not, List.reverse_cons, List.reverse_nil, Option.map_some, Option.map_none, up_same, uTuple, uList, uSet, atI_zero, atI_one, ixN_20, ixN_zero, List.set_cons_zero, uPow, kT, show decide ((((0 : Nat) + 1 + 1 : Nat) : Int) = 2) = true from rfl, decide_true, cl__is_sound_part]
    refine ⟨a, rfl, ta, ?_⟩
    cases ea : isS a with
    | false =>
      simp only [trSs, trS, trE, trT, trX, pl, trA, trO, trC, trI, uBin_s, uUn_s, uVar_s, uC_s, getS, setS, uOp, uAdd, uSub, uMul, uDiv, uMod, uPow, uNeg, uCmp, uEqF, uLt, uLe, uGt, uGe, uIsF, isNonU, uTru, Blt.fn, uLen, uAbs, uMax2, uMin2, uInt, uIx, startU, gam_fn, gam_gl, tab_xcs, tab_sub, UD_nx, UD_rt, UD_bk, UD_ct, UD_ex, spAt, glAt, gls, seqOf, List.map_cons, List.map_nil, List.cons_append, List.nil_append, List.length_cons, List.length_nil, List.replicate, Nat.reduceAdd, Nat.reduceSub, Nat.zero_add, reduceIte, Bool.false_eq_true, Bool.true_eq_false, Bool.false_bne, Bool.true_bne, Bool.not_true, Bool.not_false, Bool.not_not, List.reverse_cons, List.reverse_nil, Option.map_some, Option.map_none, up_same, uTuple, uList, uSet, atI_zero, atI_one, ixN_20, ixN_zero, List.set_cons_zero, uPow]
      refine fin.of ?_
      rw [show isPart (.tup [a, b]) = (isS a && isN b) from rfl, ea] at q
      exact q
    | true =>
      simp only [trSs, trS, trE, trT, trX, pl, trA, trO, trC, trI, uBin_s, uUn_s, uVar_s, uC_s, getS, setS, uOp, uAdd, uSub, uMul, uDiv, uMod, uPow, uNeg, uCmp, uEqF, uLt, uLe, uGt, uGe, uIsF, isNonU, uTru, Blt.fn, uLen, uAbs, uMax2, uMin2, uInt, uIx, startU, gam_fn, gam_gl, tab_xcs, tab_sub, UD_nx, UD_rt, UD_bk, UD_ct, UD_ex, spAt, glAt, gls, seqOf, List.map_cons, List.map_nil, List.cons_append, List.nil_append, List.length_cons, List.length_nil, List.replicate, Nat.reduceAdd, Nat.reduceSub, Nat.zero_add, reduceIte, Bool.false_eq_true, Bool.true_eq_false, Bool.false_bne, Bool.true_bne, Bool.not_true, Bool.not_false, Bool.not_not, List.reverse_cons, List.reverse_nil, Option.map_some, Option.map_none, up_same, uTuple, uList, uSet, atI_zero, atI_one, ixN_20, ixN_zero, List.set_cons_zero, uPow]
      refine ⟨b, rfl, tb.1, fin.of ?_⟩
      rw [show isPart (.tup [a, b]) = (isS a && isN b) from rfl, ea, Bool.true_and] at q
      exact q
  · have hb : isPart u = false := by
      unfold isPart
      split
      · rename_i a b
        exact absurd ⟨a, b, rfl⟩ hp
      · rfl
    rw [hb] at q
    cases u with
    | tup us =>
      have hl : ¬ us.length = 2 := fun e => hp (by
        match us, e with
        | [a, b], _ => exact ⟨a, b, rfl⟩)
      simp only [trSs, trS, trE, trT, trX, pl, trA, trO, trC, trI, uBin_s, uUn_s, uVar_s, uC_s, getS, setS, uOp, uAdd, uSub, uMul, uDiv, uMod, uPow, uNeg, uCmp, uEqF, uLt, uLe, uGt, uGe, uIsF, isNonU, uTru, Blt.fn, uLen, uAbs, uMax2, uMin2, uInt, uIx, startU, gam_fn, gam_gl, tab_xcs, tab_sub, UD_nx, UD_rt, UD_bk, UD_ct, UD_ex, spAt, glAt, gls, seqOf, List.map_cons, List.map_nil, List.cons_append, List.nil_append, List.length_cons, List.length_nil, List.replicate, Nat.reduceAdd, Nat.reduceSub, Nat.zero_add, reduceIte, Bool.false_eq_true, Bool.true_eq_false, Bool.false_bne, Bool.true_bne, Bool.not_true, Bool.not_false, Bool.not_not, List.reverse_cons, List.reverse_nil, Option.map_some, Option.map_none, up_same, uTuple, uList, uSet, atI_zero, atI_one, ixN_20, ixN_zero, List.set_cons_zero, uPow, kT, show decide ((us.length : Int) = 2) = false from decide_eq_false (by omega)]
      exact fin.of q
    | _ =>
      simp only [trSs, trS, trE, trT, trX, pl, trA, trO, trC, trI, uBin_s, uUn_s, uVar_s, uC_s, getS, setS, uOp, uAdd, uSub, uMul, uDiv, uMod, uPow, uNeg, uCmp, uEqF, uLt, uLe, uGt, uGe, uIsF, isNonU, uTru, Blt.fn, uLen, uAbs, uMax2, uMin2, uInt, uIx, startU, gam_fn, gam_gl, tab_xcs, tab_sub, UD_nx, UD_rt, UD_bk, UD_ct, UD_ex, spAt, glAt, gls, seqOf, List.map_cons, List.map_nil, List.cons_append, List.nil_append, List.length_cons, List.length_nil, List.replicate, Nat.reduceAdd, Nat.reduceSub, Nat.zero_add, reduceIte, Bool.false_eq_true, Bool.true_eq_false, Bool.false_bne, Bool.true_bne, Bool.not_true, Bool.not_false, Bool.not_not, List.reverse_cons, List.reverse_nil, Option.map_some, Option.map_none, up_same, uTuple, uList, uSet, atI_zero, atI_one, ixN_20, ixN_zero, List.set_cons_zero, uPow, kT]
      exact fin.of q
/-! ### turned_back -/
def sp_turned_back : USp := fun us G Q E => ∃ s, us = [s] ∧ okS G s ∧ (if isS s = true then Q (.tup (stp (tupL s) (-1))) G else E (xnu "sound") G)
def cl_turned_back : List (Str × USp) := [("is_sound", sp_is_sound)]
theorem w_turned_back (us : List U) (G : UH) (Q : UK) (E : UXn → UH → Prop) (h : sp_turned_back us G Q E) : trSs (TB cl_turned_back) (GM cl_turned_back) b_turned_back (UD Q E) (startU n_turned_back us) G := by
  obtain ⟨s, rfl, hs, q⟩ := h
  simp only [trSs, trS, trE, trT, trX, pl, trA, trO, trC, trI, uBin_s, uUn_s, uVar_s, uC_s, getS, setS, uOp, uAdd, uSub, uMul, uDiv, uMod, uPow, uNeg, uCmp, uEqF, uLt, uLe, uGt, uGe, uIsF, isNonU, uTru, Blt.fn, uLen, uAbs, uMax2, uMin2, uInt, uIx, startU, gam_fn, gam_gl, tab_xcs, tab_sub, UD_nx, UD_rt, UD_bk, UD_ct, UD_ex, spAt, glAt, gls, seqOf, List.map_cons, List.map_nil, List.cons_append, List.nil_append, List.length_cons, List.length_nil, List.replicate, Nat.reduceAdd, Nat.reduceSub, Nat.zero_add, reduceIte, Bool.false_eq_true, Bool.true_eq_false, Bool.false_bne, Bool.true_bne, Bool.not_true, Bool.not_false, Bool.not_not, List.reverse_cons, List.reverse_nil, Option.map_some, Option.map_none, up_same, uTuple, uList, uSet, atI_zero, atI_one, ixN_20, ixN_zero, List.set_cons_zero, uPow, b_turned_back, n_turned_back, cl_turned_back]
  refine ⟨s, rfl, hs, ?_⟩
  cases e : isS s with
  | false =>
    rw [e, if_neg (by decide)] at q
    simp only [trSs, trS, trE, trT, trX, pl, trA, trO, trC, trI, uBin_s, uUn_s, uVar_s, uC_s, getS, setS, uOp, uAdd, uSub, uMul, uDiv, uMod, uPow, uNeg, uCmp, uEqF, uLt, uLe, uGt, uGe, uIsF, isNonU, uTru, Blt.fn, uLen, uAbs, uMax2, uMin2, uInt, uIx, startU, gam_fn, gam_gl, tab_xcs, tab_sub, UD_nx, UD_rt, UD_bk, UD_ct, UD_ex, spAt, glAt, gls, seqOf, List.map_cons, List.map_nil, List.cons_append, List.nil_append, List.length_cons, List.length_nil, List.replicate, Nat.reduceAdd, Nat.reduceSub, Nat.zero_add, reduceIte, Bool.false_eq_true, Bool.true_eq_false, Bool.false_bne, Bool.true_bne, Bool.not_true, Bool.not_false, Bool.not_not, List.reverse_cons, List.reverse_nil, Option.map_some, Option.map_none, up_same, uTuple, uList, uSet, atI_zero, atI_one, ixN_20, ixN_zero, List.set_cons_zero, uPow]
    exact ⟨rfl, fin.of q⟩
  | true =>
    rw [e, if_pos rfl] at q
    obtain ⟨ws, rfl, hw⟩ := isS_tup e
    simp only [trSs, trS, trE, trT, trX, pl, trA, trO, trC, trI, uBin_s, uUn_s, uVar_s, uC_s, getS, setS, uOp, uAdd, uSub, uMul, uDiv, uMod, uPow, uNeg, uCmp, uEqF, uLt, uLe, uGt, uGe, uIsF, isNonU, uTru, Blt.fn, uLen, uAbs, uMax2, uMin2, uInt, uIx, startU, gam_fn, gam_gl, tab_xcs, tab_sub, UD_nx, UD_rt, UD_bk, UD_ct, UD_ex, spAt, glAt, gls, seqOf, List.map_cons, List.map_nil, List.cons_append, List.nil_append, List.length_cons, List.length_nil, List.replicate, Nat.reduceAdd, Nat.reduceSub, Nat.zero_add, reduceIte, Bool.false_eq_true, Bool.true_eq_false, Bool.false_bne, Bool.true_bne, Bool.not_true, Bool.not_false, Bool.not_not, List.reverse_cons, List.reverse_nil, Option.map_some, Option.map_none, up_same, uTuple, uList, uSet, atI_zero, atI_one, ixN_20, ixN_zero, List.set_cons_zero, uPow, t1_turned_back, uStp]
    exact ⟨by decide, fin.of q⟩
end K79
set_option Elab.async false
set_option linter.all false
set_option autoImplicit false
set_option maxRecDepth 100000
set_option maxHeartbeats 4000000
namespace K79
open PySem PySem.Spec L2 UL
/-! ### rows by places -/
abbrev rw1 (M : Nat) (F : Int → Int) : List Int := (rangeI 0 1 M).map F
theorem rl_len (M : Nat) (F : Int → Int) : (rw1 M F).length = M := by rw [List.length_map, rangeI_len]
theorem rl_get {M : Nat} {F : Int → Int} {i : Nat} (h : i < M) : (rw1 M F)[i]? = some (F i) := by
  rw [List.getElem?_map, rangeI_get _ _ _ _ h, Option.map_some]
  congr 2
  omega
theorem rl_getD {M : Nat} {F : Int → Int} {k : Int} (h0 : 0 ≤ k) (h : k < M) : (rw1 M F).getD k.toNat 0 = F k := by
  rw [List.getD_eq_getElem?_getD, rl_get (by omega), Option.getD_some, Int.toNat_of_nonneg h0]
theorem rl_ext {M : Nat} {F H : Int → Int} (h : ∀ j : Int, 0 ≤ j → j < M → F j = H j) : rw1 M F = rw1 M H := by
  apply List.ext_getElem?
  intro i
  by_cases c : i < M
  · rw [rl_get c, rl_get c, h i (by omega) (by omega)]
  · rw [List.getElem?_eq_none (by rw [rl_len]; omega), List.getElem?_eq_none (by rw [rl_len]; omega)]
theorem rl_set {M : Nat} {F H : Int → Int} {k v : Int} (h0 : 0 ≤ k) (h : k < M) (hv : H k = v) (he : ∀ j : Int, j ≠ k → F j = H j) : (rw1 M F).set k.toNat v = rw1 M H := by
  apply List.ext_getElem?
  intro i
  rw [List.getElem?_set, rl_len]
  by_cases c : i < M
  · rw [rl_get c, rl_get c]
    by_cases c2 : k.toNat = i
    · have : (i : Int) = k := by omega
      rw [if_pos c2, if_pos (by omega), this, hv]
    · rw [if_neg c2, he i (by omega)]
  · rw [if_neg (by omega), List.getElem?_eq_none (l := rw1 M F) (by rw [rl_len]; omega), List.getElem?_eq_none (by rw [rl_len]; omega)]
theorem rl_zero (M : Nat) : rw1 M (fun _ => 0) = List.replicate M 0 := by
  rw [List.eq_replicate_iff]
  refine ⟨rl_len _ _, fun x hx => ?_⟩
  obtain ⟨_, _, rfl⟩ := List.mem_map.mp hx
  rfl
/-! ### mixed -/
abbrev Part := List Int × Int
def partU (q : Part) : U := .tup [.tup (q.1.map U.int), .int q.2]
def conI (q : Part) (j : Int) : Int := if q.2 ≤ j ∧ j < q.2 + q.1.length then q.1.getD (j - q.2).toNat 0 else 0
def mixS (ps : List Part) (j : Int) : Int := (ps.map fun q => conI q j).sum
def mostI (ps : List Part) : Int := maxL 0 (ps.map fun q => q.2 + q.1.length)
def mixL (ps : List Part) : List Int := rw1 (mostI ps).toNat fun j => clipI (mixS ps j)
def okPart (q : Part) : Prop := (∀ x ∈ q.1, -1048575 ≤ x ∧ x ≤ 1048575) ∧ 0 ≤ q.2 ∧ q.2 + q.1.length ≤ 100000
theorem foldl_max_le : ∀ (l : List Int) (n m : Int), (n ≤ m → (∀ x ∈ l, x ≤ m) → l.foldl max n ≤ m) ∧ n ≤ l.foldl max n ∧ ∀ x ∈ l, x ≤ l.foldl max n
  | [], n, m => ⟨fun h _ => h, Int.le_refl _, by simp⟩
  | a :: l, n, m => by
    obtain ⟨h1, h2, h3⟩ := foldl_max_le l (max n a) m
    rw [List.foldl_cons]
    refine ⟨fun h4 h5 => h1 (by have := h5 a List.mem_cons_self; omega) fun x hx => h5 x (List.mem_cons_of_mem _ hx), by omega, fun x hx => ?_⟩
    rw [List.mem_cons] at hx
    rcases hx with rfl | hx
    · omega
    · exact h3 x hx
theorem maxL_le {l : List Int} {m : Int} (h0 : 0 ≤ m) (h : ∀ x ∈ l, x ≤ m) : maxL 0 l ≤ m := by
  cases l with
  | nil => exact h0
  | cons a l => exact (foldl_max_le l a m).1 (h a List.mem_cons_self) fun x hx => h x (List.mem_cons_of_mem _ hx)
theorem le_maxL {l : List Int} {x : Int} (h : x ∈ l) : x ≤ maxL 0 l := by
  cases l with
  | nil => cases h
  | cons a l =>
    rw [List.mem_cons] at h
    rcases h with rfl | h
    · exact (foldl_max_le l x 0).2.1
    · exact (foldl_max_le l a 0).2.2 x h
theorem most_le {ps : List Part} (h : ∀ q ∈ ps, okPart q) : mostI ps ≤ 100000 := maxL_le (by decide) fun x hx => by
  obtain ⟨q, hq, rfl⟩ := List.mem_map.mp hx
  exact (h q hq).2.2
theorem le_most {ps : List Part} {q : Part} (h : q ∈ ps) : q.2 + q.1.length ≤ mostI ps := le_maxL (List.mem_map.mpr ⟨q, h, rfl⟩)
def isP : U → Bool
  | .tup us => us.all isPart
  | _ => false
def sp_mixed : USp := fun us G Q E => ∃ u, us = [u] ∧ ok3 G u ∧ (tupL u).length ≤ 1000 ∧ ((isP u = false ∧ E (xnu "parts") G) ∨ (∃ ps : List Part, u = .tup (ps.map partU) ∧ (∀ q ∈ ps, okPart q) ∧ Q (.tup ((mixL ps).map U.int)) G))
def cl_mixed : List (Str × USp) := [("_is_sound_part", sp__is_sound_part), ("clip", sp_clip)]
theorem W_ints {ns : List Int} (h : ∀ x ∈ ns, -1048575 ≤ x ∧ x ≤ 1048575) : (ns.map U.int).all isW = true := by
  rw [List.all_map, List.all_eq_true]
  intro x hx
  obtain ⟨h1, h2⟩ := h x hx
  simp [isW, h1, h2]
theorem part_ok {q : Part} (h : okPart q) : isPart (partU q) = true := by
  show (isS (.tup (q.1.map U.int)) && isN (.int q.2)) = true
  rw [show isS (.tup (q.1.map U.int)) = true from W_ints h.1, show isN (.int q.2) = true from decide_eq_true h.2.1]
  rfl
/-- while a part is laid -/
def layI (f : Int → Int) (q : Part) (i : Nat) (j : Int) : Int := f j + if q.2 ≤ j ∧ j < q.2 + i then q.1.getD (j - q.2).toNat 0 else 0
theorem l1_mixed' {G0 : UH} {ra : Addr} (h0 : G0 ra = none) {M : Nat} {f : Int → Int} {q : Part} {u0 u1 u3 : Option U} (hq : 0 ≤ q.2) (hM : q.2 + q.1.length ≤ M) (D : UE)
    (qn : ∀ o5 o6 o7 G, Le G0 G → G ra = some (.lst ((rw1 M (layI f q q.1.length)).map U.int)) → D.nx [u0, u1, some (.ref ra), u3, some (.int q.2), o5, o6, o7] G) :
    ∀ (ns : List Int) (i : Nat) (o5 o6 o7 : Option U) (G : UH), Le G0 G → q.1.drop i = ns → G ra = some (.lst ((rw1 M (layI f q i)).map U.int)) →
    forU [] (trG (.tup (.cons (.nm 5) (.cons (.nm 6) .nil)))) (trSs (TB cl_mixed) (GM cl_mixed) l1_mixed) D (enumU i (ns.map U.int)) [u0, u1, some (.ref ra), u3, some (.int q.2), o5, o6, o7] G
  | [], i, o5, o6, o7, G, lG, e, hra => ⟨trivial, qn _ _ _ G lG (by
    have : q.1.length ≤ i := by
      have := congrArg List.length e
      rw [List.length_drop, List.length_nil] at this
      omega
    rw [hra]
    congr 3
    refine rl_ext fun j _ _ => ?_
    unfold layI
    congr 1
    by_cases c : q.2 ≤ j ∧ j < q.2 + (q.1.length : Int)
    · rw [if_pos c, if_pos ⟨c.1, by omega⟩]
    · rw [if_neg c]
      split
      · rw [List.getD_eq_getElem?_getD, List.getElem?_eq_none (by omega)]
        rfl
      · rfl)⟩
  | x :: ns, i, o5, o6, o7, G, lG, e, hra => by
    have hi : q.1[i]? = some x := by
      have := congrArg (fun l : List Int => l[0]?) e
      simpa using this
    have hil := (List.getElem?_eq_some_iff.mp hi).1
    have e' : q.1.drop (i + 1) = ns := by
      have := congrArg List.tail e
      simpa using this
    have next : ∀ o5 o6 o7 G, Le G0 G → G ra = some (.lst ((rw1 M (layI f q (i + 1))).map U.int)) → forU [] (trG (.tup (.cons (.nm 5) (.cons (.nm 6) .nil)))) (trSs (TB cl_mixed) (GM cl_mixed) l1_mixed) D (enumU (i + 1) (ns.map U.int)) [u0, u1, some (.ref ra), u3, some (.int q.2), o5, o6, o7] G := fun o5 o6 o7 G l => l1_mixed' h0 hq hM D qn ns (i + 1) o5 o6 o7 G l e'
    refine ⟨trivial, ?_⟩
    show _
    generalize forU _ _ _ D (enumU (i + 1) (ns.map U.int)) = T at next ⊢
    have k0 : 0 ≤ q.2 + (i : Int) := by omega
    have k1 : q.2 + (i : Int) < (M : Int) := by omega
    have k2 : q.2 + (i : Int) < ((rw1 M (layI f q i)).length : Int) := by rw [rl_len]; exact k1
    simp only [trSs, trS, trE, trT, trX, pl, trA, trO, trC, trI, uBin_s, uUn_s, uVar_s, uC_s, getS, setS, uOp, uAdd, uSub, uMul, uDiv, uMod, uPow, uNeg, uCmp, uEqF, uLt, uLe, uGt, uGe, uIsF, isNonU, uTru, Blt.fn, uLen, uAbs, uMax2, uMin2, uInt, uIx, startU, gam_fn, gam_gl, tab_xcs, tab_sub, UD_nx, UD_rt, UD_bk, UD_ct, UD_ex, spAt, glAt, gls, seqOf, List.map_cons, List.map_nil, List.cons_append, List.nil_append, List.length_cons, List.length_nil, List.replicate, Nat.reduceAdd, Nat.reduceSub, Nat.zero_add, reduceIte, Bool.false_eq_true, Bool.true_eq_false, Bool.false_bne, Bool.true_bne, Bool.not_true, Bool.not_false, Bool.not_not, List.reverse_cons, List.reverse_nil, Option.map_some, Option.map_none, up_same, uTuple, uList, uSet, atI_zero, atI_one, ixN_20, ixN_zero, List.set_cons_zero, uPow, trG, trGs, lenG, l1_mixed, uGet, hra, atI_int k0 k2, uIp, List.length_map, rangeI_len, ixN_nat k0 k1]
    refine ⟨trivial, trivial, _, .refl _, next _ _ _ _ (le_up h0 lG) ?_⟩
    rw [up_same, ← List.map_set, rl_getD k0 k1]
    congr 3
    refine rl_set k0 k1 ?_ fun j hj => ?_
    · unfold layI
      rw [if_pos ⟨by omega, by omega⟩, if_neg (by omega), show (q.2 + (i : Int) - q.2).toNat = i by omega, List.getD_eq_getElem?_getD, hi, Int.add_zero]
      rfl
    · unfold layI
      congr 1
      by_cases c : q.2 ≤ j ∧ j < q.2 + (i : Int)
      · rw [if_pos c, if_pos ⟨c.1, by omega⟩]
      · rw [if_neg c, if_neg (by omega)]
theorem mixS_snoc (qs : List Part) (q : Part) (j : Int) : mixS (qs ++ [q]) j = mixS qs j + conI q j := by
  unfold mixS
  rw [List.map_append, List.sum_append]
  simp
theorem l2_mixed' {G0 : UH} {ra : Addr} (h0 : G0 ra = none) {ps : List Part} {u0 u1 : Option U} (ho : ∀ q ∈ ps, okPart q) (D : UE)
    (qn : ∀ o3 o4 o5 o6 o7 G, Le G0 G → G ra = some (.lst ((rw1 (mostI ps).toNat (mixS ps)).map U.int)) → D.nx [u0, u1, some (.ref ra), o3, o4, o5, o6, o7] G) :
    ∀ (qs pre : List Part) (o3 o4 o5 o6 o7 : Option U) (G : UH), Le G0 G → ps = pre ++ qs → G ra = some (.lst ((rw1 (mostI ps).toNat (mixS pre)).map U.int)) →
    forU [] (trG (.tup (.cons (.nm 3) (.cons (.nm 4) .nil)))) (trSs (TB cl_mixed) (GM cl_mixed) l2_mixed) D (qs.map partU) [u0, u1, some (.ref ra), o3, o4, o5, o6, o7] G
  | [], pre, o3, o4, o5, o6, o7, G, lG, e, hra => ⟨trivial, qn _ _ _ _ _ G lG (by rw [List.append_nil] at e; rw [hra, ← e])⟩
  | q :: qs, pre, o3, o4, o5, o6, o7, G, lG, e, hra => by
    have hq : q ∈ ps := by rw [e]; simp
    have hM := le_most hq
    have hm0 : 0 ≤ mostI ps := by have := (ho q hq).2.1; omega
    have next : ∀ o3 o4 o5 o6 o7 G, Le G0 G → G ra = some (.lst ((rw1 (mostI ps).toNat (mixS (pre ++ [q]))).map U.int)) → forU [] (trG (.tup (.cons (.nm 3) (.cons (.nm 4) .nil)))) (trSs (TB cl_mixed) (GM cl_mixed) l2_mixed) D (qs.map partU) [u0, u1, some (.ref ra), o3, o4, o5, o6, o7] G := fun o3 o4 o5 o6 o7 G l => l2_mixed' h0 ho D qn qs (pre ++ [q]) o3 o4 o5 o6 o7 G l (by rw [e]; simp)
    refine ⟨trivial, ?_⟩
    show _
    generalize forU _ _ _ D (List.map partU qs) = T at next ⊢
    simp only [trSs, trS, trE, trT, trX, pl, trA, trO, trC, trI, uBin_s, uUn_s, uVar_s, uC_s, getS, setS, uOp, uAdd, uSub, uMul, uDiv, uMod, uPow, uNeg, uCmp, uEqF, uLt, uLe, uGt, uGe, uIsF, isNonU, uTru, Blt.fn, uLen, uAbs, uMax2, uMin2, uInt, uIx, startU, gam_fn, gam_gl, tab_xcs, tab_sub, UD_nx, UD_rt, UD_bk, UD_ct, UD_ex, spAt, glAt, gls, seqOf, List.map_cons, List.map_nil, List.cons_append, List.nil_append, List.length_cons, List.length_nil, List.replicate, Nat.reduceAdd, Nat.reduceSub, Nat.zero_add, reduceIte, Bool.false_eq_true, Bool.true_eq_false, Bool.false_bne, Bool.true_bne, Bool.not_true, Bool.not_false, Bool.not_not, List.reverse_cons, List.reverse_nil, Option.map_some, Option.map_none, up_same, uTuple, uList, uSet, atI_zero, atI_one, ixN_20, ixN_zero, List.set_cons_zero, uPow, trG, trGs, lenG, l2_mixed, partU]
    refine ⟨trivial, trivial, ?_⟩
    refine l1_mixed' (f := mixS pre) (q := q) (M := (mostI ps).toNat) h0 (ho q hq).2.1 (by omega) _ (fun o5 o6 o7 G1 l1 h1 => ?_) q.1 0 _ _ _ G lG rfl ?_
    · simp only [trSs, trS, trE, trT, trX, pl, trA, trO, trC, trI, uBin_s, uUn_s, uVar_s, uC_s, getS, setS, uOp, uAdd, uSub, uMul, uDiv, uMod, uPow, uNeg, uCmp, uEqF, uLt, uLe, uGt, uGe, uIsF, isNonU, uTru, Blt.fn, uLen, uAbs, uMax2, uMin2, uInt, uIx, startU, gam_fn, gam_gl, tab_xcs, tab_sub, UD_nx, UD_rt, UD_bk, UD_ct, UD_ex, spAt, glAt, gls, seqOf, List.map_cons, List.map_nil, List.cons_append, List.nil_append, List.length_cons, List.length_nil, List.replicate, Nat.reduceAdd, Nat.reduceSub, Nat.zero_add, reduceIte, Bool.false_eq_true, Bool.true_eq_false, Bool.false_bne, Bool.true_bne, Bool.not_true, Bool.not_false, Bool.not_not, List.reverse_cons, List.reverse_nil, Option.map_some, Option.map_none, up_same, uTuple, uList, uSet, atI_zero, atI_one, ixN_20, ixN_zero, List.set_cons_zero, uPow]
      refine ⟨_, .refl _, next _ _ _ _ _ _ l1 ?_⟩
      rw [h1]
      congr 3
      refine rl_ext fun j _ _ => ?_
      rw [mixS_snoc]
      rfl
    · rw [hra]
      congr 3
      refine rl_ext fun j _ _ => ?_
      unfold layI
      rw [if_neg (by omega), Int.add_zero]
theorem w_mixed (us : List U) (G : UH) (Q : UK) (E : UXn → UH → Prop) (h : sp_mixed us G Q E) : trSs (TB cl_mixed) (GM cl_mixed) b_mixed (UD Q E) (startU n_mixed us) G := by
  obtain ⟨u, rfl, hu, hl, q⟩ := h
  have lg := line_ge
  simp only [trSs, trS, trE, trT, trX, pl, trA, trO, trC, trI, uBin_s, uUn_s, uVar_s, uC_s, getS, setS, uOp, uAdd, uSub, uMul, uDiv, uMod, uPow, uNeg, uCmp, uEqF, uLt, uLe, uGt, uGe, uIsF, isNonU, uTru, Blt.fn, uLen, uAbs, uMax2, uMin2, uInt, uIx, startU, gam_fn, gam_gl, tab_xcs, tab_sub, UD_nx, UD_rt, UD_bk, UD_ct, UD_ex, spAt, glAt, gls, seqOf, List.map_cons, List.map_nil, List.cons_append, List.nil_append, List.length_cons, List.length_nil, List.replicate, Nat.reduceAdd, Nat.reduceSub, Nat.zero_add, reduceIte, Bool.false_eq_true, Bool.true_eq_false, Bool.false_bne, Bool.true_bne, Bool.not_true, Bool.not_false, Bool.not_not, List.reverse_cons, List.reverse_nil, Option.map_some, Option.map_none, up_same, uTuple, uList, uSet, atI_zero, atI_one, ixN_20, ixN_zero, List.set_cons_zero, uPow, b_mixed, n_mixed]
  refine isi_tuple hu.1 ?_
  cases u with
  | tup ws =>
    simp only [tupL] at hl
    simp only [trSs, trS, trE, trT, trX, pl, trA, trO, trC, trI, uBin_s, uUn_s, uVar_s, uC_s, getS, setS, uOp, uAdd, uSub, uMul, uDiv, uMod, uPow, uNeg, uCmp, uEqF, uLt, uLe, uGt, uGe, uIsF, isNonU, uTru, Blt.fn, uLen, uAbs, uMax2, uMin2, uInt, uIx, startU, gam_fn, gam_gl, tab_xcs, tab_sub, UD_nx, UD_rt, UD_bk, UD_ct, UD_ex, spAt, glAt, gls, seqOf, List.map_cons, List.map_nil, List.cons_append, List.nil_append, List.length_cons, List.length_nil, List.replicate, Nat.reduceAdd, Nat.reduceSub, Nat.zero_add, reduceIte, Bool.false_eq_true, Bool.true_eq_false, Bool.false_bne, Bool.true_bne, Bool.not_true, Bool.not_false, Bool.not_not, List.reverse_cons, List.reverse_nil, Option.map_some, Option.map_none, up_same, uTuple, uList, uSet, atI_zero, atI_one, ixN_20, ixN_zero, List.set_cons_zero, uPow, kT]
    intro p hp
    refine lcU_map (f := fun x => .bl (isPart x)) (fun _ => depsNil) ws [] (by simp; omega) ?_ ?_
    · intro y hy acc K1 K0 k1
      simp only [trSs, trS, trE, trT, trX, pl, trA, trO, trC, trI, uBin_s, uUn_s, uVar_s, uC_s, getS, setS, uOp, uAdd, uSub, uMul, uDiv, uMod, uPow, uNeg, uCmp, uEqF, uLt, uLe, uGt, uGe, uIsF, isNonU, uTru, Blt.fn, uLen, uAbs, uMax2, uMin2, uInt, uIx, startU, gam_fn, gam_gl, tab_xcs, tab_sub, UD_nx, UD_rt, UD_bk, UD_ct, UD_ex, spAt, glAt, gls, seqOf, List.map_cons, List.map_nil, List.cons_append, List.nil_append, List.length_cons, List.length_nil, List.replicate, Nat.reduceAdd, Nat.reduceSub, Nat.zero_add, reduceIte, Bool.false_eq_true, Bool.true_eq_false, Bool.false_bne, Bool.true_bne, Bool.not_true, Bool.not_false, Bool.not_not, List.reverse_cons, List.reverse_nil, Option.map_some, Option.map_none, up_same, uTuple, uList, uSet, atI_zero, atI_one, ixN_20, ixN_zero, List.set_cons_zero, uPow, slotsG, slotsGs, wipeU, trG, cl_mixed]
      exact ⟨y, rfl, ok2_le (.new hp) (hu.2 ws rfl y hy), k1⟩
    · simp only [trSs, trS, trE, trT, trX, pl, trA, trO, trC, trI, uBin_s, uUn_s, uVar_s, uC_s, getS, setS, uOp, uAdd, uSub, uMul, uDiv, uMod, uPow, uNeg, uCmp, uEqF, uLt, uLe, uGt, uGe, uIsF, isNonU, uTru, Blt.fn, uLen, uAbs, uMax2, uMin2, uInt, uIx, startU, gam_fn, gam_gl, tab_xcs, tab_sub, UD_nx, UD_rt, UD_bk, UD_ct, UD_ex, spAt, glAt, gls, seqOf, List.map_cons, List.map_nil, List.cons_append, List.nil_append, List.length_cons, List.length_nil, List.replicate, Nat.reduceAdd, Nat.reduceSub, Nat.zero_add, reduceIte, Bool.false_eq_true, Bool.true_eq_false, Bool.false_bne, Bool.true_bne, Bool.not_true, Bool.not_false, Bool.not_not, List.reverse_cons, List.reverse_nil, Option.map_some, Option.map_none, up_same, uTuple, uList, uSet, atI_zero, atI_one, ixN_20, ixN_zero, List.set_cons_zero, uPow, uAll, uBlL]
      have e1 : (ws.map fun x => U.bl (isPart x)) = (ws.map isPart).map U.bl := by simp
      rw [e1, blsOf_map]
      simp only [trSs, trS, trE, trT, trX, pl, trA, trO, trC, trI, uBin_s, uUn_s, uVar_s, uC_s, getS, setS, uOp, uAdd, uSub, uMul, uDiv, uMod, uPow, uNeg, uCmp, uEqF, uLt, uLe, uGt, uGe, uIsF, isNonU, uTru, Blt.fn, uLen, uAbs, uMax2, uMin2, uInt, uIx, startU, gam_fn, gam_gl, tab_xcs, tab_sub, UD_nx, UD_rt, UD_bk, UD_ct, UD_ex, spAt, glAt, gls, seqOf, List.map_cons, List.map_nil, List.cons_append, List.nil_append, List.length_cons, List.length_nil, List.replicate, Nat.reduceAdd, Nat.reduceSub, Nat.zero_add, reduceIte, Bool.false_eq_true, Bool.true_eq_false, Bool.false_bne, Bool.true_bne, Bool.not_true, Bool.not_false, Bool.not_not, List.reverse_cons, List.reverse_nil, Option.map_some, Option.map_none, up_same, uTuple, uList, uSet, atI_zero, atI_one, ixN_20, ixN_zero, List.set_cons_zero, uPow]
      have e2 : (ws.map isPart).all id = ws.all isPart := by rw [List.all_map]; rfl
      rw [e2]
      rcases q with ⟨q1, q2⟩ | ⟨ps, q1, q2, q3⟩
      · rw [show ws.all isPart = false from q1]
        simp only [trSs, trS, trE, trT, trX, pl, trA, trO, trC, trI, uBin_s, uUn_s, uVar_s, uC_s, getS, setS, uOp, uAdd, uSub, uMul, uDiv, uMod, uPow, uNeg, uCmp, uEqF, uLt, uLe, uGt, uGe, uIsF, isNonU, uTru, Blt.fn, uLen, uAbs, uMax2, uMin2, uInt, uIx, startU, gam_fn, gam_gl, tab_xcs, tab_sub, UD_nx, UD_rt, UD_bk, UD_ct, UD_ex, spAt, glAt, gls, seqOf, List.map_cons, List.map_nil, List.cons_append, List.nil_append, List.length_cons, List.length_nil, List.replicate, Nat.reduceAdd, Nat.reduceSub, Nat.zero_add, reduceIte, Bool.false_eq_true, Bool.true_eq_false, Bool.false_bne, Bool.true_bne, Bool.not_true, Bool.not_false, Bool.not_not, List.reverse_cons, List.reverse_nil, Option.map_some, Option.map_none, up_same, uTuple, uList, uSet, atI_zero, atI_one, ixN_20, ixN_zero, List.set_cons_zero, uPow]
        exact ⟨rfl, G, .new hp, q2⟩
      · cases q1
        have e3 : (ps.map partU).all isPart = true := by
          rw [List.all_map, List.all_eq_true]
          exact fun q hq => part_ok (q2 q hq)
        rw [e3]
        have lG := Le.new hp (o := .lst (((ps.map partU).map isPart).map U.bl))
        generalize UL.up G p _ = G1 at lG ⊢
        simp only [trSs, trS, trE, trT, trX, pl, trA, trO, trC, trI, uBin_s, uUn_s, uVar_s, uC_s, getS, setS, uOp, uAdd, uSub, uMul, uDiv, uMod, uPow, uNeg, uCmp, uEqF, uLt, uLe, uGt, uGe, uIsF, isNonU, uTru, Blt.fn, uLen, uAbs, uMax2, uMin2, uInt, uIx, startU, gam_fn, gam_gl, tab_xcs, tab_sub, UD_nx, UD_rt, UD_bk, UD_ct, UD_ex, spAt, glAt, gls, seqOf, List.map_cons, List.map_nil, List.cons_append, List.nil_append, List.length_cons, List.length_nil, List.replicate, Nat.reduceAdd, Nat.reduceSub, Nat.zero_add, reduceIte, Bool.false_eq_true, Bool.true_eq_false, Bool.false_bne, Bool.true_bne, Bool.not_true, Bool.not_false, Bool.not_not, List.reverse_cons, List.reverse_nil, Option.map_some, Option.map_none, up_same, uTuple, uList, uSet, atI_zero, atI_one, ixN_20, ixN_zero, List.set_cons_zero, uPow, t3_mixed, trG]
        refine ⟨by omega, fun g hg => ?_⟩
        have lG := lG.trans (.new hg (o := .lst [.int 0]))
        have hg1 : UL.up G1 g (.lst [U.int 0]) g = some (.lst [.int 0]) := up_same
        generalize UL.up G1 g _ = G2 at lG hg1 ⊢
        intro p2 hp2
        rw [List.length_map] at hl
        refine lcU_map (f := fun y => match y with
          | .tup [.tup ns, .int p] => .int (p + ns.length)
          | _ => .non) (fun _ => depsNil) _ [] (by rw [List.length_map, List.length_nil]; omega) ?_ ?_
        · intro y hy acc K1 K0 k1
          obtain ⟨q, hq, rfl⟩ := List.mem_map.mp hy
          simp only [trSs, trS, trE, trT, trX, pl, trA, trO, trC, trI, uBin_s, uUn_s, uVar_s, uC_s, getS, setS, uOp, uAdd, uSub, uMul, uDiv, uMod, uPow, uNeg, uCmp, uEqF, uLt, uLe, uGt, uGe, uIsF, isNonU, uTru, Blt.fn, uLen, uAbs, uMax2, uMin2, uInt, uIx, startU, gam_fn, gam_gl, tab_xcs, tab_sub, UD_nx, UD_rt, UD_bk, UD_ct, UD_ex, spAt, glAt, gls, seqOf, List.map_cons, List.map_nil, List.cons_append, List.nil_append, List.length_cons, List.length_nil, List.replicate, Nat.reduceAdd, Nat.reduceSub, Nat.zero_add, reduceIte, Bool.false_eq_true, Bool.true_eq_false, Bool.false_bne, Bool.true_bne, Bool.not_true, Bool.not_false, Bool.not_not, List.reverse_cons, List.reverse_nil, Option.map_some, Option.map_none, up_same, uTuple, uList, uSet, atI_zero, atI_one, ixN_20, ixN_zero, List.set_cons_zero, uPow, slotsG, slotsGs, wipeU, trG, trGs, lenG, partU]
          exact ⟨trivial, trivial, k1⟩
        · have e4 : (ps.map partU).map (fun y => match y with
            | .tup [.tup ns, .int p] => U.int (p + ns.length)
            | _ => .non) = (ps.map fun (q : Part) => q.2 + (q.1.length : Int)).map U.int := by
            rw [List.map_map, List.map_map]
            refine List.map_congr_left fun q hq => ?_
            show U.int (q.2 + ((q.1.map U.int).length : Nat)) = U.int (q.2 + (q.1.length : Int))
            rw [List.length_map]
          have n2 : g ≠ p2 := fun z => by subst z; rw [hg1] at hp2; cases hp2
          rw [List.nil_append, e4]
          have lG := lG.trans (.new hp2 (o := .lst ((ps.map fun (q : Part) => q.2 + (q.1.length : Int)).map U.int)))
          have hg2 : UL.up G2 p2 (.lst ((ps.map fun (q : Part) => q.2 + (q.1.length : Int)).map U.int)) g = some (.lst [.int 0]) := by rw [up_ne n2]; exact hg1
          have hp3 : UL.up G2 p2 (.lst ((ps.map fun (q : Part) => q.2 + (q.1.length : Int)).map U.int)) p2 = some (.lst ((ps.map fun (q : Part) => q.2 + (q.1.length : Int)).map U.int)) := up_same
          generalize UL.up G2 p2 _ = G3 at lG hg2 hp3 ⊢
          have m1 := most_le q2
          simp only [trSs, trS, trE, trT, trX, pl, trA, trO, trC, trI, uBin_s, uUn_s, uVar_s, uC_s, getS, setS, uOp, uAdd, uSub, uMul, uDiv, uMod, uPow, uNeg, uCmp, uEqF, uLt, uLe, uGt, uGe, uIsF, isNonU, uTru, Blt.fn, uLen, uAbs, uMax2, uMin2, uInt, uIx, startU, gam_fn, gam_gl, tab_xcs, tab_sub, UD_nx, UD_rt, UD_bk, UD_ct, UD_ex, spAt, glAt, gls, seqOf, List.map_cons, List.map_nil, List.cons_append, List.nil_append, List.length_cons, List.length_nil, List.replicate, Nat.reduceAdd, Nat.reduceSub, Nat.zero_add, reduceIte, Bool.false_eq_true, Bool.true_eq_false, Bool.false_bne, Bool.true_bne, Bool.not_true, Bool.not_false, Bool.not_not, List.reverse_cons, List.reverse_nil, Option.map_some, Option.map_none, up_same, uTuple, uList, uSet, atI_zero, atI_one, ixN_20, ixN_zero, List.set_cons_zero, uPow, uMaxD, hp3, intsOf_map, hg2]
          rw [show maxL 0 (ps.map fun (q : Part) => q.2 + (q.1.length : Int)) = mostI ps from rfl]
          have m0 : 0 ≤ mostI ps := by
            cases ps with
            | nil => exact Int.le_refl _
            | cons q r => have := (q2 q List.mem_cons_self).2.1; have := le_most (ps := q :: r) (q := q) List.mem_cons_self; omega
          refine ⟨by omega, by omega, by omega, fun ra hra => ?_⟩
          rw [rep_flat]
          simp only [trSs, trS, trE, trT, trX, pl, trA, trO, trC, trI, uBin_s, uUn_s, uVar_s, uC_s, getS, setS, uOp, uAdd, uSub, uMul, uDiv, uMod, uPow, uNeg, uCmp, uEqF, uLt, uLe, uGt, uGe, uIsF, isNonU, uTru, Blt.fn, uLen, uAbs, uMax2, uMin2, uInt, uIx, startU, gam_fn, gam_gl, tab_xcs, tab_sub, UD_nx, UD_rt, UD_bk, UD_ct, UD_ex, spAt, glAt, gls, seqOf, List.map_cons, List.map_nil, List.cons_append, List.nil_append, List.length_cons, List.length_nil, List.replicate, Nat.reduceAdd, Nat.reduceSub, Nat.zero_add, reduceIte, Bool.false_eq_true, Bool.true_eq_false, Bool.false_bne, Bool.true_bne, Bool.not_true, Bool.not_false, Bool.not_not, List.reverse_cons, List.reverse_nil, Option.map_some, Option.map_none, up_same, uTuple, uList, uSet, atI_zero, atI_one, ixN_20, ixN_zero, List.set_cons_zero, uPow, t2_mixed]
          refine l2_mixed' (G0 := G3) hra q2 _ (fun o3 o4 o5 o6 o7 G5 l5 h5 => ?_) ps [] _ _ _ _ _ _ (.new hra) rfl ?_
          · simp only [trSs, trS, trE, trT, trX, pl, trA, trO, trC, trI, uBin_s, uUn_s, uVar_s, uC_s, getS, setS, uOp, uAdd, uSub, uMul, uDiv, uMod, uPow, uNeg, uCmp, uEqF, uLt, uLe, uGt, uGe, uIsF, isNonU, uTru, Blt.fn, uLen, uAbs, uMax2, uMin2, uInt, uIx, startU, gam_fn, gam_gl, tab_xcs, tab_sub, UD_nx, UD_rt, UD_bk, UD_ct, UD_ex, spAt, glAt, gls, seqOf, List.map_cons, List.map_nil, List.cons_append, List.nil_append, List.length_cons, List.length_nil, List.replicate, Nat.reduceAdd, Nat.reduceSub, Nat.zero_add, reduceIte, Bool.false_eq_true, Bool.true_eq_false, Bool.false_bne, Bool.true_bne, Bool.not_true, Bool.not_false, Bool.not_not, List.reverse_cons, List.reverse_nil, Option.map_some, Option.map_none, up_same, uTuple, uList, uSet, atI_zero, atI_one, ixN_20, ixN_zero, List.set_cons_zero, uPow, t1_mixed, h5]
            intro p4 hp4
            have n4 : ra ≠ p4 := fun z => by subst z; rw [hp4] at h5; cases h5
            refine lcU_map (f := fun y => .int (clipI (intV y))) (ds := [(ra, (rw1 (mostI ps).toNat (mixS ps)).map U.int)]) (fun acc => (show depsOk _ [(ra, (rw1 (mostI ps).toNat (mixS ps)).map U.int)] from ⟨by rw [up_ne n4]; exact h5, trivial⟩)) _ [] (by rw [List.length_map, rl_len, List.length_nil]; omega) ?_ ?_
            · intro y hy acc K1 K0 k1
              obtain ⟨z, hz, rfl⟩ := List.mem_map.mp hy
              simp only [trSs, trS, trE, trT, trX, pl, trA, trO, trC, trI, uBin_s, uUn_s, uVar_s, uC_s, getS, setS, uOp, uAdd, uSub, uMul, uDiv, uMod, uPow, uNeg, uCmp, uEqF, uLt, uLe, uGt, uGe, uIsF, isNonU, uTru, Blt.fn, uLen, uAbs, uMax2, uMin2, uInt, uIx, startU, gam_fn, gam_gl, tab_xcs, tab_sub, UD_nx, UD_rt, UD_bk, UD_ct, UD_ex, spAt, glAt, gls, seqOf, List.map_cons, List.map_nil, List.cons_append, List.nil_append, List.length_cons, List.length_nil, List.replicate, Nat.reduceAdd, Nat.reduceSub, Nat.zero_add, reduceIte, Bool.false_eq_true, Bool.true_eq_false, Bool.false_bne, Bool.true_bne, Bool.not_true, Bool.not_false, Bool.not_not, List.reverse_cons, List.reverse_nil, Option.map_some, Option.map_none, up_same, uTuple, uList, uSet, atI_zero, atI_one, ixN_20, ixN_zero, List.set_cons_zero, uPow, slotsG, slotsGs, wipeU, trG, cl_mixed]
              exact ⟨z, rfl, k1⟩
            · have e5 : ((rw1 (mostI ps).toNat (mixS ps)).map U.int).map (fun y => U.int (clipI (intV y))) = (mixL ps).map U.int := by
                unfold mixL rw1
                simp [intV]
              rw [List.nil_append, e5]
              simp only [trSs, trS, trE, trT, trX, pl, trA, trO, trC, trI, uBin_s, uUn_s, uVar_s, uC_s, getS, setS, uOp, uAdd, uSub, uMul, uDiv, uMod, uPow, uNeg, uCmp, uEqF, uLt, uLe, uGt, uGe, uIsF, isNonU, uTru, Blt.fn, uLen, uAbs, uMax2, uMin2, uInt, uIx, startU, gam_fn, gam_gl, tab_xcs, tab_sub, UD_nx, UD_rt, UD_bk, UD_ct, UD_ex, spAt, glAt, gls, seqOf, List.map_cons, List.map_nil, List.cons_append, List.nil_append, List.length_cons, List.length_nil, List.replicate, Nat.reduceAdd, Nat.reduceSub, Nat.zero_add, reduceIte, Bool.false_eq_true, Bool.true_eq_false, Bool.false_bne, Bool.true_bne, Bool.not_true, Bool.not_false, Bool.not_not, List.reverse_cons, List.reverse_nil, Option.map_some, Option.map_none, up_same, uTuple, uList, uSet, atI_zero, atI_one, ixN_20, ixN_zero, List.set_cons_zero, uPow]
              exact ⟨G, (lG.trans l5).trans (.new hp4), q3⟩
          · rw [up_same]
            congr 2
            rw [show mixS [] = fun _ => 0 from rfl, rl_zero, List.map_replicate]
  | _ =>
    rcases q with ⟨q1, q2⟩ | ⟨ps, q1, q2, q3⟩
    · simp only [trSs, trS, trE, trT, trX, pl, trA, trO, trC, trI, uBin_s, uUn_s, uVar_s, uC_s, getS, setS, uOp, uAdd, uSub, uMul, uDiv, uMod, uPow, uNeg, uCmp, uEqF, uLt, uLe, uGt, uGe, uIsF, isNonU, uTru, Blt.fn, uLen, uAbs, uMax2, uMin2, uInt, uIx, startU, gam_fn, gam_gl, tab_xcs, tab_sub, UD_nx, UD_rt, UD_bk, UD_ct, UD_ex, spAt, glAt, gls, seqOf, List.map_cons, List.map_nil, List.cons_append, List.nil_append, List.length_cons, List.length_nil, List.replicate, Nat.reduceAdd, Nat.reduceSub, Nat.zero_add, reduceIte, Bool.false_eq_true, Bool.true_eq_false, Bool.false_bne, Bool.true_bne, Bool.not_true, Bool.not_false, Bool.not_not, List.reverse_cons, List.reverse_nil, Option.map_some, Option.map_none, up_same, uTuple, uList, uSet, atI_zero, atI_one, ixN_20, ixN_zero, List.set_cons_zero, uPow, kT]
      exact ⟨rfl, fin.of q2⟩
    · cases q1
/-! ### faded -/
def fadI (ps : List (Int × Int)) : Nat → List Int → List Int
  | _, [] => []
  | i, x :: xs => clipI ((2 * (x * curI ps i) + 4096) / 8192) :: fadI ps (i + 1) xs
def valF (ps : List (Int × Int)) : Nat → List Int → List Int
  | _, [] => []
  | i, x :: xs => x * curI ps i :: valF ps (i + 1) xs
theorem valF_fad (ps : List (Int × Int)) : ∀ (xs : List Int) (i : Nat), (valF ps i xs).map (fun v => clipI ((2 * v + 4096) / 8192)) = fadI ps i xs
  | [], _ => rfl
  | x :: xs, i => by rw [valF, List.map_cons, valF_fad ps xs, fadI]
theorem valF_len (ps : List (Int × Int)) : ∀ (xs : List Int) (i : Nat), (valF ps i xs).length = xs.length
  | [], _ => rfl
  | x :: xs, i => by rw [valF, List.length_cons, valF_len ps xs, List.length_cons]
def mulF (ps : List (Int × Int)) : U → U
  | .tup [.int k, .int x] => .int (x * curI ps k)
  | _ => .non
theorem enum_len : ∀ (us : List U) (i : Nat), (enumU i us).length = us.length
  | [], _ => rfl
  | u :: us, i => by rw [enumU, List.length_cons, enum_len us, List.length_cons]
theorem enum_memI : ∀ (ns : List Int) (i : Nat) (y : U), y ∈ enumU i (ns.map U.int) → ∃ (j : Nat) (x : Int), y = .tup [.int (j : Int), .int x] ∧ x ∈ ns
  | [], i, y, h => by cases h
  | u :: us, i, y, h => by
    rw [List.map_cons, enumU, List.mem_cons] at h
    rcases h with h | h
    · exact ⟨i, u, h, List.mem_cons_self⟩
    · obtain ⟨j, w, h1, h2⟩ := enum_memI us (i + 1) y h
      exact ⟨j, w, h1, List.mem_cons_of_mem _ h2⟩
theorem valF_enum (ps : List (Int × Int)) : ∀ (ns : List Int) (i : Nat), (enumU i (ns.map U.int)).map (mulF ps) = (valF ps i ns).map U.int
  | [], _ => rfl
  | x :: ns, i => by
    rw [List.map_cons, enumU, List.map_cons, valF_enum ps ns, valF, List.map_cons]
    rfl
theorem ptsG_ok : ∀ (ps : List (Int × Int)) (ah : Option Int), okP ps → (∀ a r, ps = a :: r → ahOk ah a.1 = true) → ptsG ah (ps.map ptU) = true
  | [], _, _, _ => rfl
  | a :: r, ah, ho, h => by
    have hh := okP_head ho
    show (isW (.int a.1) && isW (.int a.2) && ahOk ah a.1 && ptsG (some a.1) (r.map ptU)) = true
    rw [h a r rfl, ptsG_ok r (some a.1) (okP_tail ho) fun b r' e => by
      subst e
      exact decide_eq_true ho.2.1]
    simp [isW, hh]
theorem isPts_ok {ps : List (Int × Int)} (h1 : ps ≠ []) (h2 : ps.length ≤ 64) (ho : okP ps) : isPts (.tup (ps.map ptU)) = true := by
  show (decide (1 ≤ (ps.map ptU).length) && decide ((ps.map ptU).length ≤ 64) && ptsG none (ps.map ptU)) = true
  rw [List.length_map, ptsG_ok ps none ho fun _ _ _ => rfl]
  have : 1 ≤ ps.length := by
    cases ps with
    | nil => exact absurd rfl h1
    | cons a r => simp
  simp [this, h2]
def sp_faded : USp := fun us G Q E => ∃ s p, us = [s, p] ∧ okS G s ∧ ok2 G p ∧ ((isS s = false ∧ E (xnu "sound") G) ∨ (isS s = true ∧ isPts p = false ∧ E (xnu "points") G) ∨
  (∃ (ns : List Int) (ps : List (Int × Int)), s = .tup (ns.map U.int) ∧ p = .tup (ps.map ptU) ∧ (∀ x ∈ ns, -1048575 ≤ x ∧ x ≤ 1048575) ∧ ns.length ≤ 100000 ∧ ps ≠ [] ∧ ps.length ≤ 64 ∧ okP ps ∧ Q (.tup ((fadI ps 0 ns).map U.int)) G))
def cl_faded : List (Str × USp) := [("is_sound", sp_is_sound), ("is_points", sp_is_points), ("curve_at", sp_curve_at), ("clip", sp_clip), ("turned", sp_turned)]
theorem w_faded (us : List U) (G : UH) (Q : UK) (E : UXn → UH → Prop) (h : sp_faded us G Q E) : trSs (TB cl_faded) (GM cl_faded) b_faded (UD Q E) (startU n_faded us) G := by
  obtain ⟨s, p, rfl, hs, hp, q⟩ := h
  have lg := line_ge
  simp only [trSs, trS, trE, trT, trX, pl, trA, trO, trC, trI, uBin_s, uUn_s, uVar_s, uC_s, getS, setS, uOp, uAdd, uSub, uMul, uDiv, uMod, uPow, uNeg, uCmp, uEqF, uLt, uLe, uGt, uGe, uIsF, isNonU, uTru, Blt.fn, uLen, uAbs, uMax2, uMin2, uInt, uIx, startU, gam_fn, gam_gl, tab_xcs, tab_sub, UD_nx, UD_rt, UD_bk, UD_ct, UD_ex, spAt, glAt, gls, seqOf, List.map_cons, List.map_nil, List.cons_append, List.nil_append, List.length_cons, List.length_nil, List.replicate, Nat.reduceAdd, Nat.reduceSub, Nat.zero_add, reduceIte, Bool.false_eq_true, Bool.true_eq_false, Bool.false_bne, Bool.true_bne, Bool.not_true, Bool.not_false, Bool.not_not, List.reverse_cons, List.reverse_nil, Option.map_some, Option.map_none, up_same, uTuple, uList, uSet, atI_zero, atI_one, ixN_20, ixN_zero, List.set_cons_zero, uPow, b_faded, n_faded, cl_faded]
  refine ⟨s, rfl, hs, ?_⟩
  rcases q with ⟨q1, q2⟩ | ⟨q1, q2, q3⟩ | ⟨ns, ps, rfl, rfl, q1, q2, q3, q4, q5, q6⟩
  · rw [q1]
    simp only [trSs, trS, trE, trT, trX, pl, trA, trO, trC, trI, uBin_s, uUn_s, uVar_s, uC_s, getS, setS, uOp, uAdd, uSub, uMul, uDiv, uMod, uPow, uNeg, uCmp, uEqF, uLt, uLe, uGt, uGe, uIsF, isNonU, uTru, Blt.fn, uLen, uAbs, uMax2, uMin2, uInt, uIx, startU, gam_fn, gam_gl, tab_xcs, tab_sub, UD_nx, UD_rt, UD_bk, UD_ct, UD_ex, spAt, glAt, gls, seqOf, List.map_cons, List.map_nil, List.cons_append, List.nil_append, List.length_cons, List.length_nil, List.replicate, Nat.reduceAdd, Nat.reduceSub, Nat.zero_add, reduceIte, Bool.false_eq_true, Bool.true_eq_false, Bool.false_bne, Bool.true_bne, Bool.not_true, Bool.not_false, Bool.not_not, List.reverse_cons, List.reverse_nil, Option.map_some, Option.map_none, up_same, uTuple, uList, uSet, atI_zero, atI_one, ixN_20, ixN_zero, List.set_cons_zero, uPow]
    exact ⟨rfl, fin.of q2⟩
  · rw [q1]
    simp only [trSs, trS, trE, trT, trX, pl, trA, trO, trC, trI, uBin_s, uUn_s, uVar_s, uC_s, getS, setS, uOp, uAdd, uSub, uMul, uDiv, uMod, uPow, uNeg, uCmp, uEqF, uLt, uLe, uGt, uGe, uIsF, isNonU, uTru, Blt.fn, uLen, uAbs, uMax2, uMin2, uInt, uIx, startU, gam_fn, gam_gl, tab_xcs, tab_sub, UD_nx, UD_rt, UD_bk, UD_ct, UD_ex, spAt, glAt, gls, seqOf, List.map_cons, List.map_nil, List.cons_append, List.nil_append, List.length_cons, List.length_nil, List.replicate, Nat.reduceAdd, Nat.reduceSub, Nat.zero_add, reduceIte, Bool.false_eq_true, Bool.true_eq_false, Bool.false_bne, Bool.true_bne, Bool.not_true, Bool.not_false, Bool.not_not, List.reverse_cons, List.reverse_nil, Option.map_some, Option.map_none, up_same, uTuple, uList, uSet, atI_zero, atI_one, ixN_20, ixN_zero, List.set_cons_zero, uPow, t3_faded, cl_faded]
    refine ⟨p, rfl, hp, ?_⟩
    rw [q2]
    simp only [trSs, trS, trE, trT, trX, pl, trA, trO, trC, trI, uBin_s, uUn_s, uVar_s, uC_s, getS, setS, uOp, uAdd, uSub, uMul, uDiv, uMod, uPow, uNeg, uCmp, uEqF, uLt, uLe, uGt, uGe, uIsF, isNonU, uTru, Blt.fn, uLen, uAbs, uMax2, uMin2, uInt, uIx, startU, gam_fn, gam_gl, tab_xcs, tab_sub, UD_nx, UD_rt, UD_bk, UD_ct, UD_ex, spAt, glAt, gls, seqOf, List.map_cons, List.map_nil, List.cons_append, List.nil_append, List.length_cons, List.length_nil, List.replicate, Nat.reduceAdd, Nat.reduceSub, Nat.zero_add, reduceIte, Bool.false_eq_true, Bool.true_eq_false, Bool.false_bne, Bool.true_bne, Bool.not_true, Bool.not_false, Bool.not_not, List.reverse_cons, List.reverse_nil, Option.map_some, Option.map_none, up_same, uTuple, uList, uSet, atI_zero, atI_one, ixN_20, ixN_zero, List.set_cons_zero, uPow]
    exact ⟨rfl, fin.of q3⟩
  · rw [show isS (.tup (ns.map U.int)) = true from W_ints q1]
    simp only [trSs, trS, trE, trT, trX, pl, trA, trO, trC, trI, uBin_s, uUn_s, uVar_s, uC_s, getS, setS, uOp, uAdd, uSub, uMul, uDiv, uMod, uPow, uNeg, uCmp, uEqF, uLt, uLe, uGt, uGe, uIsF, isNonU, uTru, Blt.fn, uLen, uAbs, uMax2, uMin2, uInt, uIx, startU, gam_fn, gam_gl, tab_xcs, tab_sub, UD_nx, UD_rt, UD_bk, UD_ct, UD_ex, spAt, glAt, gls, seqOf, List.map_cons, List.map_nil, List.cons_append, List.nil_append, List.length_cons, List.length_nil, List.replicate, Nat.reduceAdd, Nat.reduceSub, Nat.zero_add, reduceIte, Bool.false_eq_true, Bool.true_eq_false, Bool.false_bne, Bool.true_bne, Bool.not_true, Bool.not_false, Bool.not_not, List.reverse_cons, List.reverse_nil, Option.map_some, Option.map_none, up_same, uTuple, uList, uSet, atI_zero, atI_one, ixN_20, ixN_zero, List.set_cons_zero, uPow, t3_faded, cl_faded]
    refine ⟨_, rfl, hp, ?_⟩
    rw [isPts_ok q3 q4 q5]
    simp only [trSs, trS, trE, trT, trX, pl, trA, trO, trC, trI, uBin_s, uUn_s, uVar_s, uC_s, getS, setS, uOp, uAdd, uSub, uMul, uDiv, uMod, uPow, uNeg, uCmp, uEqF, uLt, uLe, uGt, uGe, uIsF, isNonU, uTru, Blt.fn, uLen, uAbs, uMax2, uMin2, uInt, uIx, startU, gam_fn, gam_gl, tab_xcs, tab_sub, UD_nx, UD_rt, UD_bk, UD_ct, UD_ex, spAt, glAt, gls, seqOf, List.map_cons, List.map_nil, List.cons_append, List.nil_append, List.length_cons, List.length_nil, List.replicate, Nat.reduceAdd, Nat.reduceSub, Nat.zero_add, reduceIte, Bool.false_eq_true, Bool.true_eq_false, Bool.false_bne, Bool.true_bne, Bool.not_true, Bool.not_false, Bool.not_not, List.reverse_cons, List.reverse_nil, Option.map_some, Option.map_none, up_same, uTuple, uList, uSet, atI_zero, atI_one, ixN_20, ixN_zero, List.set_cons_zero, uPow, t2_faded]
    intro r hr
    refine lcU_map (f := mulF ps) (fun _ => depsNil) _ [] (by rw [enum_len, List.length_map, List.length_nil]; omega) ?_ ?_
    · intro y hy acc K1 K0 k1
      obtain ⟨j, x, rfl, hx⟩ := enum_memI _ _ _ hy
      have hb := q1 x hx
      simp only [trSs, trS, trE, trT, trX, pl, trA, trO, trC, trI, uBin_s, uUn_s, uVar_s, uC_s, getS, setS, uOp, uAdd, uSub, uMul, uDiv, uMod, uPow, uNeg, uCmp, uEqF, uLt, uLe, uGt, uGe, uIsF, isNonU, uTru, Blt.fn, uLen, uAbs, uMax2, uMin2, uInt, uIx, startU, gam_fn, gam_gl, tab_xcs, tab_sub, UD_nx, UD_rt, UD_bk, UD_ct, UD_ex, spAt, glAt, gls, seqOf, List.map_cons, List.map_nil, List.cons_append, List.nil_append, List.length_cons, List.length_nil, List.replicate, Nat.reduceAdd, Nat.reduceSub, Nat.zero_add, reduceIte, Bool.false_eq_true, Bool.true_eq_false, Bool.false_bne, Bool.true_bne, Bool.not_true, Bool.not_false, Bool.not_not, List.reverse_cons, List.reverse_nil, Option.map_some, Option.map_none, up_same, uTuple, uList, uSet, atI_zero, atI_one, ixN_20, ixN_zero, List.set_cons_zero, uPow, slotsG, slotsGs, wipeU, trG, trGs, lenG, cl_faded]
      exact ⟨trivial, trivial, ps, j, rfl, q3, q4, q5, mulL (by omega) (by omega), k1⟩
    · rw [List.nil_append, valF_enum]
      have lG := Le.new hr (o := .lst ((valF ps 0 ns).map U.int))
      have hr1 : UL.up G r (.lst ((valF ps 0 ns).map U.int)) r = some (.lst ((valF ps 0 ns).map U.int)) := up_same
      generalize UL.up G r _ = G1 at lG hr1 ⊢
      simp only [trSs, trS, trE, trT, trX, pl, trA, trO, trC, trI, uBin_s, uUn_s, uVar_s, uC_s, getS, setS, uOp, uAdd, uSub, uMul, uDiv, uMod, uPow, uNeg, uCmp, uEqF, uLt, uLe, uGt, uGe, uIsF, isNonU, uTru, Blt.fn, uLen, uAbs, uMax2, uMin2, uInt, uIx, startU, gam_fn, gam_gl, tab_xcs, tab_sub, UD_nx, UD_rt, UD_bk, UD_ct, UD_ex, spAt, glAt, gls, seqOf, List.map_cons, List.map_nil, List.cons_append, List.nil_append, List.length_cons, List.length_nil, List.replicate, Nat.reduceAdd, Nat.reduceSub, Nat.zero_add, reduceIte, Bool.false_eq_true, Bool.true_eq_false, Bool.false_bne, Bool.true_bne, Bool.not_true, Bool.not_false, Bool.not_not, List.reverse_cons, List.reverse_nil, Option.map_some, Option.map_none, up_same, uTuple, uList, uSet, atI_zero, atI_one, ixN_20, ixN_zero, List.set_cons_zero, uPow, t1_faded, hr1]
      intro r2 hr2
      have n2 : r ≠ r2 := fun z => by subst z; rw [hr2] at hr1; cases hr1
      refine lcU_map (f := fun y => .int (clipI ((2 * intV y + 4096) / 8192))) (ds := [(r, (valF ps 0 ns).map U.int)]) (fun acc => (show depsOk _ [(r, (valF ps 0 ns).map U.int)] from ⟨by rw [up_ne n2]; exact hr1, trivial⟩)) _ [] (by rw [List.length_map, valF_len, List.length_nil]; omega) ?_ ?_
      · intro y hy acc K1 K0 k1
        obtain ⟨z, hz, rfl⟩ := List.mem_map.mp hy
        simp only [trSs, trS, trE, trT, trX, pl, trA, trO, trC, trI, uBin_s, uUn_s, uVar_s, uC_s, getS, setS, uOp, uAdd, uSub, uMul, uDiv, uMod, uPow, uNeg, uCmp, uEqF, uLt, uLe, uGt, uGe, uIsF, isNonU, uTru, Blt.fn, uLen, uAbs, uMax2, uMin2, uInt, uIx, startU, gam_fn, gam_gl, tab_xcs, tab_sub, UD_nx, UD_rt, UD_bk, UD_ct, UD_ex, spAt, glAt, gls, seqOf, List.map_cons, List.map_nil, List.cons_append, List.nil_append, List.length_cons, List.length_nil, List.replicate, Nat.reduceAdd, Nat.reduceSub, Nat.zero_add, reduceIte, Bool.false_eq_true, Bool.true_eq_false, Bool.false_bne, Bool.true_bne, Bool.not_true, Bool.not_false, Bool.not_not, List.reverse_cons, List.reverse_nil, Option.map_some, Option.map_none, up_same, uTuple, uList, uSet, atI_zero, atI_one, ixN_20, ixN_zero, List.set_cons_zero, uPow, slotsG, slotsGs, wipeU, trG, cl_faded]
        exact ⟨z, rfl, _, rfl, k1⟩
      · have e5 : ((valF ps 0 ns).map U.int).map (fun y => U.int (clipI ((2 * intV y + 4096) / 8192))) = (fadI ps 0 ns).map U.int := by
          rw [← valF_fad]
          simp [intV]
        rw [List.nil_append, e5]
        simp only [trSs, trS, trE, trT, trX, pl, trA, trO, trC, trI, uBin_s, uUn_s, uVar_s, uC_s, getS, setS, uOp, uAdd, uSub, uMul, uDiv, uMod, uPow, uNeg, uCmp, uEqF, uLt, uLe, uGt, uGe, uIsF, isNonU, uTru, Blt.fn, uLen, uAbs, uMax2, uMin2, uInt, uIx, startU, gam_fn, gam_gl, tab_xcs, tab_sub, UD_nx, UD_rt, UD_bk, UD_ct, UD_ex, spAt, glAt, gls, seqOf, List.map_cons, List.map_nil, List.cons_append, List.nil_append, List.length_cons, List.length_nil, List.replicate, Nat.reduceAdd, Nat.reduceSub, Nat.zero_add, reduceIte, Bool.false_eq_true, Bool.true_eq_false, Bool.false_bne, Bool.true_bne, Bool.not_true, Bool.not_false, Bool.not_not, List.reverse_cons, List.reverse_nil, Option.map_some, Option.map_none, up_same, uTuple, uList, uSet, atI_zero, atI_one, ixN_20, ixN_zero, List.set_cons_zero, uPow]
        exact ⟨G, lG.trans (.new hr2), q6⟩
end K79
set_option Elab.async false
set_option linter.all false
set_option autoImplicit false
set_option maxRecDepth 100000
set_option maxHeartbeats 4000000
namespace K79
open PySem PySem.Spec L2 UL
/-! ### the purse -/
def sp__law_purse : USp := fun us G Q _ => ∃ ns : List Int, us = [.rol (ns.map U.int)] ∧ ns.length ≤ 63 ∧ ∀ p g G', Pur G' p g → Le G G' → Q (.ref p) G'
def cl__law_purse : List (Str × USp) := []
theorem l__law_purse {G0 : UH} {ns : List Int} {g : Addr} (hn : ns.length ≤ 63) (D : UE) (qn : ∀ (sd : Int) (o o2 : Option U) (gr : List Int) (G : UH), Le G0 G → G g = some (.lst (gr.map U.int)) → D.nx [some (.rol (ns.map U.int)), some (.int sd), some (.ref g), o, o2] G) (hg0 : G0 g = none) :
    ∀ (ks : List Int) (sd : Int) (o o2 : Option U) (gr : List Int) (G : UH), (∀ k ∈ ks, 0 ≤ k ∧ k < ns.length) → gr.length + ks.length ≤ 63 → Le G0 G → G g = some (.lst (gr.map U.int)) →
    forU [] (trG (.nm 3)) (trSs (TB cl__law_purse) (GM cl__law_purse) l1__law_purse) D (List.map U.int ks) [some (.rol (ns.map U.int)), some (.int sd), some (.ref g), o, o2] G
  | [], sd, o, o2, gr, G, _, _, l, hg => ⟨trivial, qn sd o o2 gr G l hg⟩
  | k :: ks, sd, o, o2, gr, G, hk, hl, l, hg => by
    refine ⟨trivial, ?_⟩
    generalize hT : forU _ _ _ D (List.map U.int ks) = T
    obtain ⟨k0, k1⟩ := hk k List.mem_cons_self
    have lg := line_ge
    have hl2 : gr.length + ks.length + 1 ≤ 63 := by simp only [List.length_cons] at hl; omega
    simp only [trSs, trS, trE, trT, trX, pl, trA, trO, trC, trI, uBin_s, uUn_s, uVar_s, uC_s, getS, setS, uOp, uAdd, uSub, uMul, uDiv, uMod, uPow, uNeg, uCmp, uEqF, uLt, uLe, uGt, uGe, uIsF, isNonU, uTru, Blt.fn, uLen, uAbs, uMax2, uMin2, uInt, uIx, startU, gam_fn, gam_gl, tab_xcs, tab_sub, UD_nx, UD_rt, UD_bk, UD_ct, UD_ex, spAt, glAt, gls, seqOf, List.map_cons, List.map_nil, List.cons_append, List.nil_append, List.length_cons, List.length_nil, List.replicate, Nat.reduceAdd, Nat.reduceSub, Nat.zero_add, reduceIte, Bool.false_eq_true, Bool.true_eq_false, Bool.false_bne, Bool.true_bne, Bool.not_true, Bool.not_false, Bool.not_not, List.reverse_cons, List.reverse_nil, Option.map_some, Option.map_none, up_same, uTuple, uList, uSet, atI_zero, atI_one, ixN_20, ixN_zero, List.set_cons_zero, uPow, trG, l1__law_purse, atI_int k0 k1]
    simp only [trSs, trS, trE, trT, trX, pl, trA, trO, trC, trI, uBin_s, uUn_s, uVar_s, uC_s, getS, setS, uOp, uAdd, uSub, uMul, uDiv, uMod, uPow, uNeg, uCmp, uEqF, uLt, uLe, uGt, uGe, uIsF, isNonU, uTru, Blt.fn, uLen, uAbs, uMax2, uMin2, uInt, uIx, startU, gam_fn, gam_gl, tab_xcs, tab_sub, UD_nx, UD_rt, UD_bk, UD_ct, UD_ex, spAt, glAt, gls, seqOf, List.map_cons, List.map_nil, List.cons_append, List.nil_append, List.length_cons, List.length_nil, List.replicate, Nat.reduceAdd, Nat.reduceSub, Nat.zero_add, reduceIte, Bool.false_eq_true, Bool.true_eq_false, Bool.false_bne, Bool.true_bne, Bool.not_true, Bool.not_false, Bool.not_not, List.reverse_cons, List.reverse_nil, Option.map_some, Option.map_none, up_same, uTuple, uList, uSet, atI_zero, atI_one, ixN_20, ixN_zero, List.set_cons_zero, uPow, t2__law_purse]
    have fin1 : ∀ (gr' : List Int) (G1 : UH) (c : Int), gr'.length + ks.length ≤ 63 → Le G0 G1 → G1 g = some (.lst (gr'.map U.int)) → ∀ sd', ∃ G3, Le G3 G1 ∧ T [some (.rol (ns.map U.int)), some (.int sd'), some (.ref g), some (.int k), some (.int c)] G3 := by
      intro gr' G1 c h1 h2 h3 sd'
      subst hT
      exact ⟨G1, .refl _, l__law_purse hn D qn hg0 ks sd' _ _ gr' G1 (fun x hx => hk x (List.mem_cons_of_mem _ hx)) h1 h2 h3⟩
    refine ⟨⟨by decide, by decide, by decide⟩, ?_⟩
    by_cases hc : (10 : Int) ^ (18 : Int).toNat ≤ ((ns.getD k.toNat 0).natAbs : Int)
    · simp only [trSs, trS, trE, trT, trX, pl, trA, trO, trC, trI, uBin_s, uUn_s, uVar_s, uC_s, getS, setS, uOp, uAdd, uSub, uMul, uDiv, uMod, uPow, uNeg, uCmp, uEqF, uLt, uLe, uGt, uGe, uIsF, isNonU, uTru, Blt.fn, uLen, uAbs, uMax2, uMin2, uInt, uIx, startU, gam_fn, gam_gl, tab_xcs, tab_sub, UD_nx, UD_rt, UD_bk, UD_ct, UD_ex, spAt, glAt, gls, seqOf, List.map_cons, List.map_nil, List.cons_append, List.nil_append, List.length_cons, List.length_nil, List.replicate, Nat.reduceAdd, Nat.reduceSub, Nat.zero_add, reduceIte, Bool.false_eq_true, Bool.true_eq_false, Bool.false_bne, Bool.true_bne, Bool.not_true, Bool.not_false, Bool.not_not, List.reverse_cons, List.reverse_nil, Option.map_some, Option.map_none, up_same, uTuple, uList, uSet, atI_zero, atI_one, ixN_20, ixN_zero, List.set_cons_zero, uPow, hc, decide_true, mTy, hg, Mth.T, Mth.fn, uL]
      refine ⟨trivial, mulL (by decide) (by decide), by rw [List.length_map]; omega, ?_⟩
      simp only [trSs, trS, trE, trT, trX, pl, trA, trO, trC, trI, uBin_s, uUn_s, uVar_s, uC_s, getS, setS, uOp, uAdd, uSub, uMul, uDiv, uMod, uPow, uNeg, uCmp, uEqF, uLt, uLe, uGt, uGe, uIsF, isNonU, uTru, Blt.fn, uLen, uAbs, uMax2, uMin2, uInt, uIx, startU, gam_fn, gam_gl, tab_xcs, tab_sub, UD_nx, UD_rt, UD_bk, UD_ct, UD_ex, spAt, glAt, gls, seqOf, List.map_cons, List.map_nil, List.cons_append, List.nil_append, List.length_cons, List.length_nil, List.replicate, Nat.reduceAdd, Nat.reduceSub, Nat.zero_add, reduceIte, Bool.false_eq_true, Bool.true_eq_false, Bool.false_bne, Bool.true_bne, Bool.not_true, Bool.not_false, Bool.not_not, List.reverse_cons, List.reverse_nil, Option.map_some, Option.map_none, up_same, uTuple, uList, uSet, atI_zero, atI_one, ixN_20, ixN_zero, List.set_cons_zero, uPow, t1__law_purse]
      refine ⟨mulR (by decide) (by decide), by omega, mulR (by decide) (by decide), mulL (by decide) (by decide), by omega, ?_⟩
      refine fin1 (gr ++ [2 * ((ns.getD k.toNat 0).natAbs : Int) + if decide (ns.getD k.toNat 0 < 0) = true then 1 else 0]) _ _ (by simp; omega) (fun a o e => ?_) (by rw [up_same, List.map_append]; rfl) _
      rw [up_ne (fun z => by subst z; rw [hg0] at e; cases e)]
      exact l a o e
    · simp only [trSs, trS, trE, trT, trX, pl, trA, trO, trC, trI, uBin_s, uUn_s, uVar_s, uC_s, getS, setS, uOp, uAdd, uSub, uMul, uDiv, uMod, uPow, uNeg, uCmp, uEqF, uLt, uLe, uGt, uGe, uIsF, isNonU, uTru, Blt.fn, uLen, uAbs, uMax2, uMin2, uInt, uIx, startU, gam_fn, gam_gl, tab_xcs, tab_sub, UD_nx, UD_rt, UD_bk, UD_ct, UD_ex, spAt, glAt, gls, seqOf, List.map_cons, List.map_nil, List.cons_append, List.nil_append, List.length_cons, List.length_nil, List.replicate, Nat.reduceAdd, Nat.reduceSub, Nat.zero_add, reduceIte, Bool.false_eq_true, Bool.true_eq_false, Bool.false_bne, Bool.true_bne, Bool.not_true, Bool.not_false, Bool.not_not, List.reverse_cons, List.reverse_nil, Option.map_some, Option.map_none, up_same, uTuple, uList, uSet, atI_zero, atI_one, ixN_20, ixN_zero, List.set_cons_zero, uPow, hc, decide_false, t1__law_purse]
      refine ⟨mulR (by decide) (by decide), by omega, mulR (by decide) (by decide), mulL (by decide) (by decide), by omega, ?_⟩
      exact fin1 gr _ _ (by omega) l hg _
theorem w__law_purse (us : List U) (G : UH) (Q : UK) (E : UXn → UH → Prop) (h : sp__law_purse us G Q E) : trSs (TB cl__law_purse) (GM cl__law_purse) b__law_purse (UD Q E) (startU n__law_purse us) G := by
  obtain ⟨ns, rfl, hn, q⟩ := h
  have lg := line_ge
  simp only [trSs, trS, trE, trT, trX, pl, trA, trO, trC, trI, uBin_s, uUn_s, uVar_s, uC_s, getS, setS, uOp, uAdd, uSub, uMul, uDiv, uMod, uPow, uNeg, uCmp, uEqF, uLt, uLe, uGt, uGe, uIsF, isNonU, uTru, Blt.fn, uLen, uAbs, uMax2, uMin2, uInt, uIx, startU, gam_fn, gam_gl, tab_xcs, tab_sub, UD_nx, UD_rt, UD_bk, UD_ct, UD_ex, spAt, glAt, gls, seqOf, List.map_cons, List.map_nil, List.cons_append, List.nil_append, List.length_cons, List.length_nil, List.replicate, Nat.reduceAdd, Nat.reduceSub, Nat.zero_add, reduceIte, Bool.false_eq_true, Bool.true_eq_false, Bool.false_bne, Bool.true_bne, Bool.not_true, Bool.not_false, Bool.not_not, List.reverse_cons, List.reverse_nil, Option.map_some, Option.map_none, up_same, uTuple, uList, uSet, atI_zero, atI_one, ixN_20, ixN_zero, List.set_cons_zero, uPow, b__law_purse, n__law_purse, trG]
  simp only [trSs, trS, trE, trT, trX, pl, trA, trO, trC, trI, uBin_s, uUn_s, uVar_s, uC_s, getS, setS, uOp, uAdd, uSub, uMul, uDiv, uMod, uPow, uNeg, uCmp, uEqF, uLt, uLe, uGt, uGe, uIsF, isNonU, uTru, Blt.fn, uLen, uAbs, uMax2, uMin2, uInt, uIx, startU, gam_fn, gam_gl, tab_xcs, tab_sub, UD_nx, UD_rt, UD_bk, UD_ct, UD_ex, spAt, glAt, gls, seqOf, List.map_cons, List.map_nil, List.cons_append, List.nil_append, List.length_cons, List.length_nil, List.replicate, Nat.reduceAdd, Nat.reduceSub, Nat.zero_add, reduceIte, Bool.false_eq_true, Bool.true_eq_false, Bool.false_bne, Bool.true_bne, Bool.not_true, Bool.not_false, Bool.not_not, List.reverse_cons, List.reverse_nil, Option.map_some, Option.map_none, up_same, uTuple, uList, uSet, atI_zero, atI_one, ixN_20, ixN_zero, List.set_cons_zero, uPow, t5__law_purse, trG]
  refine ⟨by omega, fun g hg => ?_⟩
  simp only [trSs, trS, trE, trT, trX, pl, trA, trO, trC, trI, uBin_s, uUn_s, uVar_s, uC_s, getS, setS, uOp, uAdd, uSub, uMul, uDiv, uMod, uPow, uNeg, uCmp, uEqF, uLt, uLe, uGt, uGe, uIsF, isNonU, uTru, Blt.fn, uLen, uAbs, uMax2, uMin2, uInt, uIx, startU, gam_fn, gam_gl, tab_xcs, tab_sub, UD_nx, UD_rt, UD_bk, UD_ct, UD_ex, spAt, glAt, gls, seqOf, List.map_cons, List.map_nil, List.cons_append, List.nil_append, List.length_cons, List.length_nil, List.replicate, Nat.reduceAdd, Nat.reduceSub, Nat.zero_add, reduceIte, Bool.false_eq_true, Bool.true_eq_false, Bool.false_bne, Bool.true_bne, Bool.not_true, Bool.not_false, Bool.not_not, List.reverse_cons, List.reverse_nil, Option.map_some, Option.map_none, up_same, uTuple, uList, uSet, atI_zero, atI_one, ixN_20, ixN_zero, List.set_cons_zero, uPow, t4__law_purse, List.length_map]
  refine ⟨by unfold small62; omega, ?_⟩
  rw [rangeU_map]
  refine l__law_purse (G0 := G) (g := g) hn _ (fun sd o o2 gr G1 l h1 => ?_) hg _ _ none none [] _ (fun k hk => ?_) (by rw [rangeI_len]; simp; omega) (.new hg) up_same
  · simp only [trSs, trS, trE, trT, trX, pl, trA, trO, trC, trI, uBin_s, uUn_s, uVar_s, uC_s, getS, setS, uOp, uAdd, uSub, uMul, uDiv, uMod, uPow, uNeg, uCmp, uEqF, uLt, uLe, uGt, uGe, uIsF, isNonU, uTru, Blt.fn, uLen, uAbs, uMax2, uMin2, uInt, uIx, startU, gam_fn, gam_gl, tab_xcs, tab_sub, UD_nx, UD_rt, UD_bk, UD_ct, UD_ex, spAt, glAt, gls, seqOf, List.map_cons, List.map_nil, List.cons_append, List.nil_append, List.length_cons, List.length_nil, List.replicate, Nat.reduceAdd, Nat.reduceSub, Nat.zero_add, reduceIte, Bool.false_eq_true, Bool.true_eq_false, Bool.false_bne, Bool.true_bne, Bool.not_true, Bool.not_false, Bool.not_not, List.reverse_cons, List.reverse_nil, Option.map_some, Option.map_none, up_same, uTuple, uList, uSet, atI_zero, atI_one, ixN_20, ixN_zero, List.set_cons_zero, uPow, t3__law_purse]
    refine ⟨by omega, fun p hp => fin.of ?_⟩
    have n : p ≠ g := fun z => by subst z; rw [hp] at h1; cases h1
    exact q p g _ ⟨n, sd, gr, up_same, by rw [up_ne n.symm]; exact h1⟩ (l.trans (.new hp))
  · obtain ⟨i, hi, e⟩ := rangeI_mem hk
    omega
abbrev sp__law_pick : USp := sp_pick
def cl__law_pick : List (Str × USp) := []
theorem w__law_pick (us : List U) (G : UH) (Q : UK) (E : UXn → UH → Prop) (h : sp__law_pick us G Q E) : trSs (TB cl__law_pick) (GM cl__law_pick) b__law_pick (UD Q E) (startU n__law_pick us) G := by
  obtain ⟨p, g, many, rfl, ⟨hpg, sd, gr, hp, hg⟩, m1, m2, q⟩ := h
  have lg := line_ge
  have rr : ∀ x : Int, 0 ≤ x % many ∧ x % many < many := fun x => ⟨Int.emod_nonneg _ (by omega), Int.emod_lt_of_pos _ m1⟩
  simp only [trSs, trS, trE, trT, trX, pl, trA, trO, trC, trI, uBin_s, uUn_s, uVar_s, uC_s, getS, setS, uOp, uAdd, uSub, uMul, uDiv, uMod, uPow, uNeg, uCmp, uEqF, uLt, uLe, uGt, uGe, uIsF, isNonU, uTru, Blt.fn, uLen, uAbs, uMax2, uMin2, uInt, uIx, startU, gam_fn, gam_gl, tab_xcs, tab_sub, UD_nx, UD_rt, UD_bk, UD_ct, UD_ex, spAt, glAt, gls, seqOf, List.map_cons, List.map_nil, List.cons_append, List.nil_append, List.length_cons, List.length_nil, List.replicate, Nat.reduceAdd, Nat.reduceSub, Nat.zero_add, reduceIte, Bool.false_eq_true, Bool.true_eq_false, Bool.false_bne, Bool.true_bne, Bool.not_true, Bool.not_false, Bool.not_not, List.reverse_cons, List.reverse_nil, Option.map_some, Option.map_none, up_same, uTuple, uList, uSet, atI_zero, atI_one, ixN_20, ixN_zero, List.set_cons_zero, uPow, b__law_pick, n__law_pick, trG, hp]
  simp only [trSs, trS, trE, trT, trX, pl, trA, trO, trC, trI, uBin_s, uUn_s, uVar_s, uC_s, getS, setS, uOp, uAdd, uSub, uMul, uDiv, uMod, uPow, uNeg, uCmp, uEqF, uLt, uLe, uGt, uGe, uIsF, isNonU, uTru, Blt.fn, uLen, uAbs, uMax2, uMin2, uInt, uIx, startU, gam_fn, gam_gl, tab_xcs, tab_sub, UD_nx, UD_rt, UD_bk, UD_ct, UD_ex, spAt, glAt, gls, seqOf, List.map_cons, List.map_nil, List.cons_append, List.nil_append, List.length_cons, List.length_nil, List.replicate, Nat.reduceAdd, Nat.reduceSub, Nat.zero_add, reduceIte, Bool.false_eq_true, Bool.true_eq_false, Bool.false_bne, Bool.true_bne, Bool.not_true, Bool.not_false, Bool.not_not, List.reverse_cons, List.reverse_nil, Option.map_some, Option.map_none, up_same, uTuple, uList, uSet, atI_zero, atI_one, ixN_20, ixN_zero, List.set_cons_zero, uPow, t6__law_pick, hg, List.length_map]
  cases gr with
  | nil =>
    simp only [trSs, trS, trE, trT, trX, pl, trA, trO, trC, trI, uBin_s, uUn_s, uVar_s, uC_s, getS, setS, uOp, uAdd, uSub, uMul, uDiv, uMod, uPow, uNeg, uCmp, uEqF, uLt, uLe, uGt, uGe, uIsF, isNonU, uTru, Blt.fn, uLen, uAbs, uMax2, uMin2, uInt, uIx, startU, gam_fn, gam_gl, tab_xcs, tab_sub, UD_nx, UD_rt, UD_bk, UD_ct, UD_ex, spAt, glAt, gls, seqOf, List.map_cons, List.map_nil, List.cons_append, List.nil_append, List.length_cons, List.length_nil, List.replicate, Nat.reduceAdd, Nat.reduceSub, Nat.zero_add, reduceIte, Bool.false_eq_true, Bool.true_eq_false, Bool.false_bne, Bool.true_bne, Bool.not_true, Bool.not_false, Bool.not_not, List.reverse_cons, List.reverse_nil, Option.map_some, Option.map_none, up_same, uTuple, uList, uSet, atI_zero, atI_one, ixN_20, ixN_zero, List.set_cons_zero, uPow, show decide ((0 : Int) < ((0 : Nat) : Int)) = false from rfl, t5__law_pick, hp]
    refine ⟨mulR (by decide) (by decide), by omega, ?_⟩
    simp only [trSs, trS, trE, trT, trX, pl, trA, trO, trC, trI, uBin_s, uUn_s, uVar_s, uC_s, getS, setS, uOp, uAdd, uSub, uMul, uDiv, uMod, uPow, uNeg, uCmp, uEqF, uLt, uLe, uGt, uGe, uIsF, isNonU, uTru, Blt.fn, uLen, uAbs, uMax2, uMin2, uInt, uIx, startU, gam_fn, gam_gl, tab_xcs, tab_sub, UD_nx, UD_rt, UD_bk, UD_ct, UD_ex, spAt, glAt, gls, seqOf, List.map_cons, List.map_nil, List.cons_append, List.nil_append, List.length_cons, List.length_nil, List.replicate, Nat.reduceAdd, Nat.reduceSub, Nat.zero_add, reduceIte, Bool.false_eq_true, Bool.true_eq_false, Bool.false_bne, Bool.true_bne, Bool.not_true, Bool.not_false, Bool.not_not, List.reverse_cons, List.reverse_nil, Option.map_some, Option.map_none, up_same, uTuple, uList, uSet, atI_zero, atI_one, ixN_20, ixN_zero, List.set_cons_zero, uPow, t4__law_pick]
    refine ⟨divS (by decide) (by decide), mulR (by decide) (by decide), by omega, m1, fin.of ?_⟩
    exact q _ _ (rr _).1 (rr _).2 ⟨hpg, _, [], up_same, by rw [up_ne hpg.symm]; exact hg⟩ Fr.up1
  | cons c t =>
    have hlt : decide ((0 : Int) < ((t.length + 1 : Nat) : Int)) = true := decide_eq_true (by omega)
    have hg' : G g = some (.lst (U.int c :: t.map U.int)) := hg
    simp only [trSs, trS, trE, trT, trX, pl, trA, trO, trC, trI, uBin_s, uUn_s, uVar_s, uC_s, getS, setS, uOp, uAdd, uSub, uMul, uDiv, uMod, uPow, uNeg, uCmp, uEqF, uLt, uLe, uGt, uGe, uIsF, isNonU, uTru, Blt.fn, uLen, uAbs, uMax2, uMin2, uInt, uIx, startU, gam_fn, gam_gl, tab_xcs, tab_sub, UD_nx, UD_rt, UD_bk, UD_ct, UD_ex, spAt, glAt, gls, seqOf, List.map_cons, List.map_nil, List.cons_append, List.nil_append, List.length_cons, List.length_nil, List.replicate, Nat.reduceAdd, Nat.reduceSub, Nat.zero_add, reduceIte, Bool.false_eq_true, Bool.true_eq_false, Bool.false_bne, Bool.true_bne, Bool.not_true, Bool.not_false, Bool.not_not, List.reverse_cons, List.reverse_nil, Option.map_some, Option.map_none, up_same, uTuple, uList, uSet, atI_zero, atI_one, ixN_20, ixN_zero, List.set_cons_zero, uPow, hlt, trG, hg', t3__law_pick]
    refine ⟨divS m1 m2, ?_⟩
    simp only [trSs, trS, trE, trT, trX, pl, trA, trO, trC, trI, uBin_s, uUn_s, uVar_s, uC_s, getS, setS, uOp, uAdd, uSub, uMul, uDiv, uMod, uPow, uNeg, uCmp, uEqF, uLt, uLe, uGt, uGe, uIsF, isNonU, uTru, Blt.fn, uLen, uAbs, uMax2, uMin2, uInt, uIx, startU, gam_fn, gam_gl, tab_xcs, tab_sub, UD_nx, UD_rt, UD_bk, UD_ct, UD_ex, spAt, glAt, gls, seqOf, List.map_cons, List.map_nil, List.cons_append, List.nil_append, List.length_cons, List.length_nil, List.replicate, Nat.reduceAdd, Nat.reduceSub, Nat.zero_add, reduceIte, Bool.false_eq_true, Bool.true_eq_false, Bool.false_bne, Bool.true_bne, Bool.not_true, Bool.not_false, Bool.not_not, List.reverse_cons, List.reverse_nil, Option.map_some, Option.map_none, up_same, uTuple, uList, uSet, atI_zero, atI_one, ixN_20, ixN_zero, List.set_cons_zero, uPow, t2__law_pick]
    by_cases h0 : c / many = 0
    · simp only [trSs, trS, trE, trT, trX, pl, trA, trO, trC, trI, uBin_s, uUn_s, uVar_s, uC_s, getS, setS, uOp, uAdd, uSub, uMul, uDiv, uMod, uPow, uNeg, uCmp, uEqF, uLt, uLe, uGt, uGe, uIsF, isNonU, uTru, Blt.fn, uLen, uAbs, uMax2, uMin2, uInt, uIx, startU, gam_fn, gam_gl, tab_xcs, tab_sub, UD_nx, UD_rt, UD_bk, UD_ct, UD_ex, spAt, glAt, gls, seqOf, List.map_cons, List.map_nil, List.cons_append, List.nil_append, List.length_cons, List.length_nil, List.replicate, Nat.reduceAdd, Nat.reduceSub, Nat.zero_add, reduceIte, Bool.false_eq_true, Bool.true_eq_false, Bool.false_bne, Bool.true_bne, Bool.not_true, Bool.not_false, Bool.not_not, List.reverse_cons, List.reverse_nil, Option.map_some, Option.map_none, up_same, uTuple, uList, uSet, atI_zero, atI_one, ixN_20, ixN_zero, List.set_cons_zero, uPow, h0, decide_true, mTy, Mth.T, Mth.fn, uL]
      refine ⟨trivial, by decide, by decide, ?_⟩
      simp only [trSs, trS, trE, trT, trX, pl, trA, trO, trC, trI, uBin_s, uUn_s, uVar_s, uC_s, getS, setS, uOp, uAdd, uSub, uMul, uDiv, uMod, uPow, uNeg, uCmp, uEqF, uLt, uLe, uGt, uGe, uIsF, isNonU, uTru, Blt.fn, uLen, uAbs, uMax2, uMin2, uInt, uIx, startU, gam_fn, gam_gl, tab_xcs, tab_sub, UD_nx, UD_rt, UD_bk, UD_ct, UD_ex, spAt, glAt, gls, seqOf, List.map_cons, List.map_nil, List.cons_append, List.nil_append, List.length_cons, List.length_nil, List.replicate, Nat.reduceAdd, Nat.reduceSub, Nat.zero_add, reduceIte, Bool.false_eq_true, Bool.true_eq_false, Bool.false_bne, Bool.true_bne, Bool.not_true, Bool.not_false, Bool.not_not, List.reverse_cons, List.reverse_nil, Option.map_some, Option.map_none, up_same, uTuple, uList, uSet, atI_zero, atI_one, ixN_20, ixN_zero, List.set_cons_zero, uPow, List.getElem?_cons_zero, t1__law_pick, List.eraseIdx_cons_zero]
      refine ⟨m1, fin.of ?_⟩
      refine q _ _ (rr _).1 (rr _).2 ⟨hpg, sd, t, ?_, ?_⟩ ?_
      · rw [up_ne hpg, up_ne hpg]; exact hp
      · rw [up_same]
      · exact Fr.up2.trans Fr.up2
    · simp only [trSs, trS, trE, trT, trX, pl, trA, trO, trC, trI, uBin_s, uUn_s, uVar_s, uC_s, getS, setS, uOp, uAdd, uSub, uMul, uDiv, uMod, uPow, uNeg, uCmp, uEqF, uLt, uLe, uGt, uGe, uIsF, isNonU, uTru, Blt.fn, uLen, uAbs, uMax2, uMin2, uInt, uIx, startU, gam_fn, gam_gl, tab_xcs, tab_sub, UD_nx, UD_rt, UD_bk, UD_ct, UD_ex, spAt, glAt, gls, seqOf, List.map_cons, List.map_nil, List.cons_append, List.nil_append, List.length_cons, List.length_nil, List.replicate, Nat.reduceAdd, Nat.reduceSub, Nat.zero_add, reduceIte, Bool.false_eq_true, Bool.true_eq_false, Bool.false_bne, Bool.true_bne, Bool.not_true, Bool.not_false, Bool.not_not, List.reverse_cons, List.reverse_nil, Option.map_some, Option.map_none, up_same, uTuple, uList, uSet, atI_zero, atI_one, ixN_20, ixN_zero, List.set_cons_zero, uPow, h0, decide_false, t1__law_pick]
      refine ⟨m1, fin.of ?_⟩
      exact q _ _ (rr _).1 (rr _).2 ⟨hpg, sd, (c / many) :: t, by rw [up_ne hpg]; exact hp, up_same⟩ Fr.up2
/-! ### _law_worth -/
def sp__law_worth : USp := fun us G Q _ => ∃ p g, us = [.ref p] ∧ Pur G p g ∧ ∀ r G', -1048575 ≤ r → r ≤ 1048575 → Pur G' p g → Fr p g G G' → Q (.int r) G'
def cl__law_worth : List (Str × USp) := [("_law_pick", sp__law_pick)]
theorem w__law_worth (us : List U) (G : UH) (Q : UK) (E : UXn → UH → Prop) (h : sp__law_worth us G Q E) : trSs (TB cl__law_worth) (GM cl__law_worth) b__law_worth (UD Q E) (startU n__law_worth us) G := by
  obtain ⟨p, g, rfl, hP, q⟩ := h
  simp only [trSs, trS, trE, trT, trX, pl, trA, trO, trC, trI, uBin_s, uUn_s, uVar_s, uC_s, getS, setS, uOp, uAdd, uSub, uMul, uDiv, uMod, uPow, uNeg, uCmp, uEqF, uLt, uLe, uGt, uGe, uIsF, isNonU, uTru, Blt.fn, uLen, uAbs, uMax2, uMin2, uInt, uIx, startU, gam_fn, gam_gl, tab_xcs, tab_sub, UD_nx, UD_rt, UD_bk, UD_ct, UD_ex, spAt, glAt, gls, seqOf, List.map_cons, List.map_nil, List.cons_append, List.nil_append, List.length_cons, List.length_nil, List.replicate, Nat.reduceAdd, Nat.reduceSub, Nat.zero_add, reduceIte, Bool.false_eq_true, Bool.true_eq_false, Bool.false_bne, Bool.true_bne, Bool.not_true, Bool.not_false, Bool.not_not, List.reverse_cons, List.reverse_nil, Option.map_some, Option.map_none, up_same, uTuple, uList, uSet, atI_zero, atI_one, ixN_20, ixN_zero, List.set_cons_zero, uPow, b__law_worth, n__law_worth, cl__law_worth, trG]
  refine ⟨p, g, 8, rfl, hP, by decide, by decide, fun r G1 r0 r1 hP1 f1 => ?_⟩
  simp only [trSs, trS, trE, trT, trX, pl, trA, trO, trC, trI, uBin_s, uUn_s, uVar_s, uC_s, getS, setS, uOp, uAdd, uSub, uMul, uDiv, uMod, uPow, uNeg, uCmp, uEqF, uLt, uLe, uGt, uGe, uIsF, isNonU, uTru, Blt.fn, uLen, uAbs, uMax2, uMin2, uInt, uIx, startU, gam_fn, gam_gl, tab_xcs, tab_sub, UD_nx, UD_rt, UD_bk, UD_ct, UD_ex, spAt, glAt, gls, seqOf, List.map_cons, List.map_nil, List.cons_append, List.nil_append, List.length_cons, List.length_nil, List.replicate, Nat.reduceAdd, Nat.reduceSub, Nat.zero_add, reduceIte, Bool.false_eq_true, Bool.true_eq_false, Bool.false_bne, Bool.true_bne, Bool.not_true, Bool.not_false, Bool.not_not, List.reverse_cons, List.reverse_nil, Option.map_some, Option.map_none, up_same, uTuple, uList, uSet, atI_zero, atI_one, ixN_20, ixN_zero, List.set_cons_zero, uPow, t5__law_worth]
  by_cases h0 : r = 0
  · simp only [trSs, trS, trE, trT, trX, pl, trA, trO, trC, trI, uBin_s, uUn_s, uVar_s, uC_s, getS, setS, uOp, uAdd, uSub, uMul, uDiv, uMod, uPow, uNeg, uCmp, uEqF, uLt, uLe, uGt, uGe, uIsF, isNonU, uTru, Blt.fn, uLen, uAbs, uMax2, uMin2, uInt, uIx, startU, gam_fn, gam_gl, tab_xcs, tab_sub, UD_nx, UD_rt, UD_bk, UD_ct, UD_ex, spAt, glAt, gls, seqOf, List.map_cons, List.map_nil, List.cons_append, List.nil_append, List.length_cons, List.length_nil, List.replicate, Nat.reduceAdd, Nat.reduceSub, Nat.zero_add, reduceIte, Bool.false_eq_true, Bool.true_eq_false, Bool.false_bne, Bool.true_bne, Bool.not_true, Bool.not_false, Bool.not_not, List.reverse_cons, List.reverse_nil, Option.map_some, Option.map_none, up_same, uTuple, uList, uSet, atI_zero, atI_one, ixN_20, ixN_zero, List.set_cons_zero, uPow, h0, decide_true]
    exact fin.of (q _ _ (by decide) (by decide) hP1 f1)
  · simp only [trSs, trS, trE, trT, trX, pl, trA, trO, trC, trI, uBin_s, uUn_s, uVar_s, uC_s, getS, setS, uOp, uAdd, uSub, uMul, uDiv, uMod, uPow, uNeg, uCmp, uEqF, uLt, uLe, uGt, uGe, uIsF, isNonU, uTru, Blt.fn, uLen, uAbs, uMax2, uMin2, uInt, uIx, startU, gam_fn, gam_gl, tab_xcs, tab_sub, UD_nx, UD_rt, UD_bk, UD_ct, UD_ex, spAt, glAt, gls, seqOf, List.map_cons, List.map_nil, List.cons_append, List.nil_append, List.length_cons, List.length_nil, List.replicate, Nat.reduceAdd, Nat.reduceSub, Nat.zero_add, reduceIte, Bool.false_eq_true, Bool.true_eq_false, Bool.false_bne, Bool.true_bne, Bool.not_true, Bool.not_false, Bool.not_not, List.reverse_cons, List.reverse_nil, Option.map_some, Option.map_none, up_same, uTuple, uList, uSet, atI_zero, atI_one, ixN_20, ixN_zero, List.set_cons_zero, uPow, h0, decide_false, t4__law_worth]
    by_cases h1 : r = 1
    · simp only [trSs, trS, trE, trT, trX, pl, trA, trO, trC, trI, uBin_s, uUn_s, uVar_s, uC_s, getS, setS, uOp, uAdd, uSub, uMul, uDiv, uMod, uPow, uNeg, uCmp, uEqF, uLt, uLe, uGt, uGe, uIsF, isNonU, uTru, Blt.fn, uLen, uAbs, uMax2, uMin2, uInt, uIx, startU, gam_fn, gam_gl, tab_xcs, tab_sub, UD_nx, UD_rt, UD_bk, UD_ct, UD_ex, spAt, glAt, gls, seqOf, List.map_cons, List.map_nil, List.cons_append, List.nil_append, List.length_cons, List.length_nil, List.replicate, Nat.reduceAdd, Nat.reduceSub, Nat.zero_add, reduceIte, Bool.false_eq_true, Bool.true_eq_false, Bool.false_bne, Bool.true_bne, Bool.not_true, Bool.not_false, Bool.not_not, List.reverse_cons, List.reverse_nil, Option.map_some, Option.map_none, up_same, uTuple, uList, uSet, atI_zero, atI_one, ixN_20, ixN_zero, List.set_cons_zero, uPow, h1, decide_true]
      exact fin.of (q _ _ (by decide) (by decide) hP1 f1)
    · simp only [trSs, trS, trE, trT, trX, pl, trA, trO, trC, trI, uBin_s, uUn_s, uVar_s, uC_s, getS, setS, uOp, uAdd, uSub, uMul, uDiv, uMod, uPow, uNeg, uCmp, uEqF, uLt, uLe, uGt, uGe, uIsF, isNonU, uTru, Blt.fn, uLen, uAbs, uMax2, uMin2, uInt, uIx, startU, gam_fn, gam_gl, tab_xcs, tab_sub, UD_nx, UD_rt, UD_bk, UD_ct, UD_ex, spAt, glAt, gls, seqOf, List.map_cons, List.map_nil, List.cons_append, List.nil_append, List.length_cons, List.length_nil, List.replicate, Nat.reduceAdd, Nat.reduceSub, Nat.zero_add, reduceIte, Bool.false_eq_true, Bool.true_eq_false, Bool.false_bne, Bool.true_bne, Bool.not_true, Bool.not_false, Bool.not_not, List.reverse_cons, List.reverse_nil, Option.map_some, Option.map_none, up_same, uTuple, uList, uSet, atI_zero, atI_one, ixN_20, ixN_zero, List.set_cons_zero, uPow, h1, decide_false, t3__law_worth]
      by_cases h2 : r = 2
      · simp only [trSs, trS, trE, trT, trX, pl, trA, trO, trC, trI, uBin_s, uUn_s, uVar_s, uC_s, getS, setS, uOp, uAdd, uSub, uMul, uDiv, uMod, uPow, uNeg, uCmp, uEqF, uLt, uLe, uGt, uGe, uIsF, isNonU, uTru, Blt.fn, uLen, uAbs, uMax2, uMin2, uInt, uIx, startU, gam_fn, gam_gl, tab_xcs, tab_sub, UD_nx, UD_rt, UD_bk, UD_ct, UD_ex, spAt, glAt, gls, seqOf, List.map_cons, List.map_nil, List.cons_append, List.nil_append, List.length_cons, List.length_nil, List.replicate, Nat.reduceAdd, Nat.reduceSub, Nat.zero_add, reduceIte, Bool.false_eq_true, Bool.true_eq_false, Bool.false_bne, Bool.true_bne, Bool.not_true, Bool.not_false, Bool.not_not, List.reverse_cons, List.reverse_nil, Option.map_some, Option.map_none, up_same, uTuple, uList, uSet, atI_zero, atI_one, ixN_20, ixN_zero, List.set_cons_zero, uPow, h2, decide_true]
        exact fin.of (q _ _ (by decide) (by decide) hP1 f1)
      · simp only [trSs, trS, trE, trT, trX, pl, trA, trO, trC, trI, uBin_s, uUn_s, uVar_s, uC_s, getS, setS, uOp, uAdd, uSub, uMul, uDiv, uMod, uPow, uNeg, uCmp, uEqF, uLt, uLe, uGt, uGe, uIsF, isNonU, uTru, Blt.fn, uLen, uAbs, uMax2, uMin2, uInt, uIx, startU, gam_fn, gam_gl, tab_xcs, tab_sub, UD_nx, UD_rt, UD_bk, UD_ct, UD_ex, spAt, glAt, gls, seqOf, List.map_cons, List.map_nil, List.cons_append, List.nil_append, List.length_cons, List.length_nil, List.replicate, Nat.reduceAdd, Nat.reduceSub, Nat.zero_add, reduceIte, Bool.false_eq_true, Bool.true_eq_false, Bool.false_bne, Bool.true_bne, Bool.not_true, Bool.not_false, Bool.not_not, List.reverse_cons, List.reverse_nil, Option.map_some, Option.map_none, up_same, uTuple, uList, uSet, atI_zero, atI_one, ixN_20, ixN_zero, List.set_cons_zero, uPow, h2, decide_false, t2__law_worth, cl__law_worth]
        by_cases h3 : r < 6
        · simp only [trSs, trS, trE, trT, trX, pl, trA, trO, trC, trI, uBin_s, uUn_s, uVar_s, uC_s, getS, setS, uOp, uAdd, uSub, uMul, uDiv, uMod, uPow, uNeg, uCmp, uEqF, uLt, uLe, uGt, uGe, uIsF, isNonU, uTru, Blt.fn, uLen, uAbs, uMax2, uMin2, uInt, uIx, startU, gam_fn, gam_gl, tab_xcs, tab_sub, UD_nx, UD_rt, UD_bk, UD_ct, UD_ex, spAt, glAt, gls, seqOf, List.map_cons, List.map_nil, List.cons_append, List.nil_append, List.length_cons, List.length_nil, List.replicate, Nat.reduceAdd, Nat.reduceSub, Nat.zero_add, reduceIte, Bool.false_eq_true, Bool.true_eq_false, Bool.false_bne, Bool.true_bne, Bool.not_true, Bool.not_false, Bool.not_not, List.reverse_cons, List.reverse_nil, Option.map_some, Option.map_none, up_same, uTuple, uList, uSet, atI_zero, atI_one, ixN_20, ixN_zero, List.set_cons_zero, uPow, h3, decide_true]
          refine ⟨p, g, 9, rfl, hP1, by decide, by decide, fun r2 G2 a b hP2 f2 => ?_⟩
          exact fin.of (q _ _ (by omega) (by omega) hP2 (f1.trans f2))
        · simp only [trSs, trS, trE, trT, trX, pl, trA, trO, trC, trI, uBin_s, uUn_s, uVar_s, uC_s, getS, setS, uOp, uAdd, uSub, uMul, uDiv, uMod, uPow, uNeg, uCmp, uEqF, uLt, uLe, uGt, uGe, uIsF, isNonU, uTru, Blt.fn, uLen, uAbs, uMax2, uMin2, uInt, uIx, startU, gam_fn, gam_gl, tab_xcs, tab_sub, UD_nx, UD_rt, UD_bk, UD_ct, UD_ex, spAt, glAt, gls, seqOf, List.map_cons, List.map_nil, List.cons_append, List.nil_append, List.length_cons, List.length_nil, List.replicate, Nat.reduceAdd, Nat.reduceSub, Nat.zero_add, reduceIte, Bool.false_eq_true, Bool.true_eq_false, Bool.false_bne, Bool.true_bne, Bool.not_true, Bool.not_false, Bool.not_not, List.reverse_cons, List.reverse_nil, Option.map_some, Option.map_none, up_same, uTuple, uList, uSet, atI_zero, atI_one, ixN_20, ixN_zero, List.set_cons_zero, uPow, h3, decide_false, t1__law_worth, cl__law_worth]
          refine ⟨p, g, 2097151, rfl, hP1, by decide, by decide, fun r2 G2 a b hP2 f2 => ?_⟩
          exact fin.of (q _ _ (by omega) (by omega) hP2 (f1.trans f2))
/-! ### _law_sound -/
def Wd1 (ns : List Int) : Prop := ∀ x ∈ ns, -1048575 ≤ x ∧ x ≤ 1048575
def sp__law_sound : USp := fun us G Q _ => ∃ p g, us = [.ref p] ∧ Pur G p g ∧ ∀ (ns : List Int) G', Wd1 ns → ns.length ≤ 60 → Pur G' p g → Fr p g G G' → Q (.tup (ns.map U.int)) G'
def cl__law_sound : List (Str × USp) := [("_law_pick", sp__law_pick), ("_law_worth", sp__law_worth)]
theorem ints_of {P : Int → Prop} {us : List U} (h : ∀ u ∈ us, ∃ x, u = .int x ∧ P x) : ∃ xs : List Int, us = xs.map U.int ∧ ∀ x ∈ xs, P x := by
  refine ⟨us.map intV, ?_, ?_⟩
  · rw [List.map_map]
    refine (List.map_id us).symm.trans (List.map_congr_left fun u hu => ?_)
    obtain ⟨x, rfl, _⟩ := h u hu
    rfl
  · intro x hx
    obtain ⟨u, hu, rfl⟩ := List.mem_map.mp hx
    obtain ⟨z, rfl, hz⟩ := h u hu
    exact hz
theorem w__law_sound (us : List U) (G : UH) (Q : UK) (E : UXn → UH → Prop) (h : sp__law_sound us G Q E) : trSs (TB cl__law_sound) (GM cl__law_sound) b__law_sound (UD Q E) (startU n__law_sound us) G := by
  obtain ⟨p, g, rfl, hP, q⟩ := h
  have lg := line_ge
  have st1 : ∀ (size : Int) (G1 : UH), 0 ≤ size → size ≤ 60 → Pur G1 p g → Fr p g G G1 → trSs (TB cl__law_sound) (GM cl__law_sound) t1__law_sound (UD Q E) [some (.ref p), some (.int size), none] G1 := by
    intro size G1 s0 s1 hP1 f1
    simp only [trSs, trS, trE, trT, trX, pl, trA, trO, trC, trI, uBin_s, uUn_s, uVar_s, uC_s, getS, setS, uOp, uAdd, uSub, uMul, uDiv, uMod, uPow, uNeg, uCmp, uEqF, uLt, uLe, uGt, uGe, uIsF, isNonU, uTru, Blt.fn, uLen, uAbs, uMax2, uMin2, uInt, uIx, startU, gam_fn, gam_gl, tab_xcs, tab_sub, UD_nx, UD_rt, UD_bk, UD_ct, UD_ex, spAt, glAt, gls, seqOf, List.map_cons, List.map_nil, List.cons_append, List.nil_append, List.length_cons, List.length_nil, List.replicate, Nat.reduceAdd, Nat.reduceSub, Nat.zero_add, reduceIte, Bool.false_eq_true, Bool.true_eq_false, Bool.false_bne, Bool.true_bne, Bool.not_true, Bool.not_false, Bool.not_not, List.reverse_cons, List.reverse_nil, Option.map_some, Option.map_none, up_same, uTuple, uList, uSet, atI_zero, atI_one, ixN_20, ixN_zero, List.set_cons_zero, uPow, t1__law_sound]
    refine ⟨by unfold small62; omega, ?_⟩
    rw [rangeU_map]
    intro ra hra
    have hne := hP1.ne hra
    refine lcU_acc (fun G2 => Pur G2 p g ∧ Fr p g G1 G2) (fun u => ∃ x, u = .int x ∧ (-1048575 ≤ x ∧ x ≤ 1048575)) ?_ size.toNat (by omega) ?_ _ [] _ (by rw [List.length_map, rangeI_len]; simp) ⟨hP1.upf hra, Fr.of_le (.new hra)⟩ up_same (by simp) ?_
    · intro G2 acc h
      refine ⟨h.1.upn hne.1 hne.2, fun a o h1 h2 e => ?_⟩
      rw [up_ne (fun z => by subst z; rw [hra] at e; cases e)]
      exact h.2 a o h1 h2 e
    · intro G2 us hI hus hB hlen
      obtain ⟨xs, rfl, hx⟩ := ints_of hB
      rw [List.length_map] at hlen
      simp only [trSs, trS, trE, trT, trX, pl, trA, trO, trC, trI, uBin_s, uUn_s, uVar_s, uC_s, getS, setS, uOp, uAdd, uSub, uMul, uDiv, uMod, uPow, uNeg, uCmp, uEqF, uLt, uLe, uGt, uGe, uIsF, isNonU, uTru, Blt.fn, uLen, uAbs, uMax2, uMin2, uInt, uIx, startU, gam_fn, gam_gl, tab_xcs, tab_sub, UD_nx, UD_rt, UD_bk, UD_ct, UD_ex, spAt, glAt, gls, seqOf, List.map_cons, List.map_nil, List.cons_append, List.nil_append, List.length_cons, List.length_nil, List.replicate, Nat.reduceAdd, Nat.reduceSub, Nat.zero_add, reduceIte, Bool.false_eq_true, Bool.true_eq_false, Bool.false_bne, Bool.true_bne, Bool.not_true, Bool.not_false, Bool.not_not, List.reverse_cons, List.reverse_nil, Option.map_some, Option.map_none, up_same, uTuple, uList, uSet, atI_zero, atI_one, ixN_20, ixN_zero, List.set_cons_zero, uPow, hus]
      exact fin.of (q xs G2 hx (by omega) hI.1 (f1.trans hI.2))
    · intro y hy acc G2 K1 K0 hI hacc kk
      simp only [trSs, trS, trE, trT, trX, pl, trA, trO, trC, trI, uBin_s, uUn_s, uVar_s, uC_s, getS, setS, uOp, uAdd, uSub, uMul, uDiv, uMod, uPow, uNeg, uCmp, uEqF, uLt, uLe, uGt, uGe, uIsF, isNonU, uTru, Blt.fn, uLen, uAbs, uMax2, uMin2, uInt, uIx, startU, gam_fn, gam_gl, tab_xcs, tab_sub, UD_nx, UD_rt, UD_bk, UD_ct, UD_ex, spAt, glAt, gls, seqOf, List.map_cons, List.map_nil, List.cons_append, List.nil_append, List.length_cons, List.length_nil, List.replicate, Nat.reduceAdd, Nat.reduceSub, Nat.zero_add, reduceIte, Bool.false_eq_true, Bool.true_eq_false, Bool.false_bne, Bool.true_bne, Bool.not_true, Bool.not_false, Bool.not_not, List.reverse_cons, List.reverse_nil, Option.map_some, Option.map_none, up_same, uTuple, uList, uSet, atI_zero, atI_one, ixN_20, ixN_zero, List.set_cons_zero, uPow, slotsG, slotsGs, wipeU, trG, cl__law_sound]
      exact ⟨p, g, rfl, hI.1, fun r G3 r0 r1 hP3 f3 => kk _ _ ⟨_, rfl, r0, r1⟩ ⟨hP3, hI.2.trans f3⟩ (f3 _ _ hne.1.symm hne.2.symm hacc)⟩
  simp only [trSs, trS, trE, trT, trX, pl, trA, trO, trC, trI, uBin_s, uUn_s, uVar_s, uC_s, getS, setS, uOp, uAdd, uSub, uMul, uDiv, uMod, uPow, uNeg, uCmp, uEqF, uLt, uLe, uGt, uGe, uIsF, isNonU, uTru, Blt.fn, uLen, uAbs, uMax2, uMin2, uInt, uIx, startU, gam_fn, gam_gl, tab_xcs, tab_sub, UD_nx, UD_rt, UD_bk, UD_ct, UD_ex, spAt, glAt, gls, seqOf, List.map_cons, List.map_nil, List.cons_append, List.nil_append, List.length_cons, List.length_nil, List.replicate, Nat.reduceAdd, Nat.reduceSub, Nat.zero_add, reduceIte, Bool.false_eq_true, Bool.true_eq_false, Bool.false_bne, Bool.true_bne, Bool.not_true, Bool.not_false, Bool.not_not, List.reverse_cons, List.reverse_nil, Option.map_some, Option.map_none, up_same, uTuple, uList, uSet, atI_zero, atI_one, ixN_20, ixN_zero, List.set_cons_zero, uPow, b__law_sound, n__law_sound, trG, cl__law_sound]
  refine ⟨p, g, 10, rfl, hP, by decide, by decide, fun r G1 r0 r1 hP1 f1 => ?_⟩
  simp only [trSs, trS, trE, trT, trX, pl, trA, trO, trC, trI, uBin_s, uUn_s, uVar_s, uC_s, getS, setS, uOp, uAdd, uSub, uMul, uDiv, uMod, uPow, uNeg, uCmp, uEqF, uLt, uLe, uGt, uGe, uIsF, isNonU, uTru, Blt.fn, uLen, uAbs, uMax2, uMin2, uInt, uIx, startU, gam_fn, gam_gl, tab_xcs, tab_sub, UD_nx, UD_rt, UD_bk, UD_ct, UD_ex, spAt, glAt, gls, seqOf, List.map_cons, List.map_nil, List.cons_append, List.nil_append, List.length_cons, List.length_nil, List.replicate, Nat.reduceAdd, Nat.reduceSub, Nat.zero_add, reduceIte, Bool.false_eq_true, Bool.true_eq_false, Bool.false_bne, Bool.true_bne, Bool.not_true, Bool.not_false, Bool.not_not, List.reverse_cons, List.reverse_nil, Option.map_some, Option.map_none, up_same, uTuple, uList, uSet, atI_zero, atI_one, ixN_20, ixN_zero, List.set_cons_zero, uPow, t2__law_sound, trG, cl__law_sound]
  refine ⟨p, g, 8, rfl, hP1, by decide, by decide, fun r2 G2 a b hP2 f2 => ?_⟩
  by_cases c : r2 = 0
  · simp only [trSs, trS, trE, trT, trX, pl, trA, trO, trC, trI, uBin_s, uUn_s, uVar_s, uC_s, getS, setS, uOp, uAdd, uSub, uMul, uDiv, uMod, uPow, uNeg, uCmp, uEqF, uLt, uLe, uGt, uGe, uIsF, isNonU, uTru, Blt.fn, uLen, uAbs, uMax2, uMin2, uInt, uIx, startU, gam_fn, gam_gl, tab_xcs, tab_sub, UD_nx, UD_rt, UD_bk, UD_ct, UD_ex, spAt, glAt, gls, seqOf, List.map_cons, List.map_nil, List.cons_append, List.nil_append, List.length_cons, List.length_nil, List.replicate, Nat.reduceAdd, Nat.reduceSub, Nat.zero_add, reduceIte, Bool.false_eq_true, Bool.true_eq_false, Bool.false_bne, Bool.true_bne, Bool.not_true, Bool.not_false, Bool.not_not, List.reverse_cons, List.reverse_nil, Option.map_some, Option.map_none, up_same, uTuple, uList, uSet, atI_zero, atI_one, ixN_20, ixN_zero, List.set_cons_zero, uPow, c, decide_true]
    refine ⟨p, g, 41, rfl, hP2, by decide, by decide, fun r3 G3 a b hP3 f3 => ?_⟩
    exact st1 _ G3 (by omega) (by omega) hP3 ((f1.trans f2).trans f3)
  · simp only [trSs, trS, trE, trT, trX, pl, trA, trO, trC, trI, uBin_s, uUn_s, uVar_s, uC_s, getS, setS, uOp, uAdd, uSub, uMul, uDiv, uMod, uPow, uNeg, uCmp, uEqF, uLt, uLe, uGt, uGe, uIsF, isNonU, uTru, Blt.fn, uLen, uAbs, uMax2, uMin2, uInt, uIx, startU, gam_fn, gam_gl, tab_xcs, tab_sub, UD_nx, UD_rt, UD_bk, UD_ct, UD_ex, spAt, glAt, gls, seqOf, List.map_cons, List.map_nil, List.cons_append, List.nil_append, List.length_cons, List.length_nil, List.replicate, Nat.reduceAdd, Nat.reduceSub, Nat.zero_add, reduceIte, Bool.false_eq_true, Bool.true_eq_false, Bool.false_bne, Bool.true_bne, Bool.not_true, Bool.not_false, Bool.not_not, List.reverse_cons, List.reverse_nil, Option.map_some, Option.map_none, up_same, uTuple, uList, uSet, atI_zero, atI_one, ixN_20, ixN_zero, List.set_cons_zero, uPow, c, decide_false]
    exact st1 _ G2 (by omega) (by omega) hP2 (f1.trans f2)
/-! ### _law_points -/
def sp__law_points : USp := fun us G Q _ => ∃ p g, us = [.ref p] ∧ Pur G p g ∧ ∀ (ps : List (Int × Int)) G', ps ≠ [] → ps.length ≤ 64 → okP ps → Pur G' p g → Fr p g G G' → Q (.tup (ps.map ptU)) G'
def cl__law_points : List (Str × USp) := [("_law_pick", sp__law_pick), ("_law_worth", sp__law_worth)]
/-- rising, all below pos -/
def okB (ps : List (Int × Int)) (pos : Int) : Prop := okP ps ∧ ∀ a, ps.getLast? = some a → a.1 < pos
theorem okB_snoc : ∀ (ps : List (Int × Int)) (pos w : Int), okB ps pos → -1048575 ≤ pos → pos ≤ 1048575 → -1048575 ≤ w → w ≤ 1048575 → okP (ps ++ [(pos, w)])
  | [], pos, w, _, h1, h2, h3, h4 => ⟨h1, h2, h3, h4⟩
  | [a], pos, w, h, h1, h2, h3, h4 => ⟨h.1, h.2 a rfl, h1, h2, h3, h4⟩
  | a :: b :: r, pos, w, h, h1, h2, h3, h4 => ⟨h.1.1, h.1.2.1, okB_snoc (b :: r) pos w ⟨h.1.2.2, fun c hc => h.2 c (by rw [← hc]; rfl)⟩ h1 h2 h3 h4⟩
theorem l__law_points {G0 : UH} {p g ra : Addr} {s1 : Option U} (np : p ≠ ra) (ng : g ≠ ra) (h0 : G0 ra = none) (D : UE)
    (qn : ∀ o2 o4 o5 (ps : List (Int × Int)) G, ps ≠ [] → ps.length ≤ 64 → okP ps → Pur G p g → Fr p g G0 G → G ra = some (.lst (ps.map ptU)) → D.nx [some (.ref p), s1, o2, some (.ref ra), o4, o5] G) :
    ∀ (ks : List Int) (pos : Int) (ps : List (Int × Int)) (o4 o5 : Option U) (G : UH), ps.length + ks.length ≤ 64 → 1 ≤ ps.length + ks.length → okB ps pos → -1048575 ≤ pos → pos + 1000 * (ks.length : Int) ≤ 100000 → Pur G p g → Fr p g G0 G → G ra = some (.lst (ps.map ptU)) →
    forU [] (trG (.nm 4)) (trSs (TB cl__law_points) (GM cl__law_points) l1__law_points) D (List.map U.int ks) [some (.ref p), s1, some (.int pos), some (.ref ra), o4, o5] G
  | [], pos, ps, o4, o5, G, hl, hl1, ho, p0, p1, hP, hf, hra => by
    refine ⟨trivial, qn _ _ _ ps G ?_ ?_ ho.1 hP hf hra⟩
    · intro z
      rw [z] at hl1
      exact absurd hl1 (by decide)
    · exact hl
  | k :: ks, pos, ps, o4, o5, G, hl, hl1, ho, p0, p1, hP, hf, hra => by
    simp only [List.length_cons] at hl hl1 p1
    have next : ∀ (pos : Int) (ps : List (Int × Int)) (o4 o5 : Option U) (G : UH), ps.length + ks.length ≤ 64 → 1 ≤ ps.length + ks.length → okB ps pos → -1048575 ≤ pos → pos + 1000 * (ks.length : Int) ≤ 100000 → Pur G p g → Fr p g G0 G → G ra = some (.lst (ps.map ptU)) →
      forU [] (trG (.nm 4)) (trSs (TB cl__law_points) (GM cl__law_points) l1__law_points) D (List.map U.int ks) [some (.ref p), s1, some (.int pos), some (.ref ra), o4, o5] G := fun pos ps o4 o5 G => l__law_points np ng h0 D qn ks pos ps o4 o5 G
    refine ⟨trivial, ?_⟩
    generalize forU _ _ _ D (List.map U.int ks) = T at next ⊢
    have lg := line_ge
    -- behind the worth
    have st3 : ∀ (w : Int) (G1 : UH) (o4 : Option U), -1048575 ≤ w → w ≤ 1048575 → Pur G1 p g → Fr p g G0 G1 → G1 ra = some (.lst (ps.map ptU)) → trSs (TB cl__law_points) (GM cl__law_points) t3__law_points ⟨fun s2 G2 => ∃ G3, Le G3 G2 ∧ T s2 G3, D.rt, D.nx, fun s2 G2 => ∃ G3, Le G3 G2 ∧ T s2 G3, D.ex⟩ [some (.ref p), s1, some (.int pos), some (.ref ra), o4, some (.int w)] G1 := by
      intro w G1 o4 w0 w1 hP1 f1 h1
      simp only [trSs, trS, trE, trT, trX, pl, trA, trO, trC, trI, uBin_s, uUn_s, uVar_s, uC_s, getS, setS, uOp, uAdd, uSub, uMul, uDiv, uMod, uPow, uNeg, uCmp, uEqF, uLt, uLe, uGt, uGe, uIsF, isNonU, uTru, Blt.fn, uLen, uAbs, uMax2, uMin2, uInt, uIx, startU, gam_fn, gam_gl, tab_xcs, tab_sub, UD_nx, UD_rt, UD_bk, UD_ct, UD_ex, spAt, glAt, gls, seqOf, List.map_cons, List.map_nil, List.cons_append, List.nil_append, List.length_cons, List.length_nil, List.replicate, Nat.reduceAdd, Nat.reduceSub, Nat.zero_add, reduceIte, Bool.false_eq_true, Bool.true_eq_false, Bool.false_bne, Bool.true_bne, Bool.not_true, Bool.not_false, Bool.not_not, List.reverse_cons, List.reverse_nil, Option.map_some, Option.map_none, up_same, uTuple, uList, uSet, atI_zero, atI_one, ixN_20, ixN_zero, List.set_cons_zero, uPow, t3__law_points, Mth.T, mTy, h1, Mth.fn, uL]
      refine ⟨trivial, by omega, by rw [List.length_map]; omega, ?_⟩
      have hP2 := hP1.upn (o := .lst (ps.map ptU ++ [.tup [.int pos, .int w]])) np ng
      have f2 : Fr p g G0 (UL.up G1 ra (.lst (ps.map ptU ++ [.tup [.int pos, .int w]]))) := fun a o h2 h3 e => by
        rw [up_ne (fun z => by subst z; rw [h0] at e; cases e)]
        exact f1 a o h2 h3 e
      have h2 : UL.up G1 ra (.lst (ps.map ptU ++ [.tup [.int pos, .int w]])) ra = some (.lst ((ps ++ [(pos, w)]).map ptU)) := by
        rw [up_same, List.map_append]
        rfl
      generalize UL.up G1 ra _ = G2 at hP2 f2 h2 ⊢
      have hb := okB_snoc ps pos w ho p0 (by omega) w0 w1
      simp only [trSs, trS, trE, trT, trX, pl, trA, trO, trC, trI, uBin_s, uUn_s, uVar_s, uC_s, getS, setS, uOp, uAdd, uSub, uMul, uDiv, uMod, uPow, uNeg, uCmp, uEqF, uLt, uLe, uGt, uGe, uIsF, isNonU, uTru, Blt.fn, uLen, uAbs, uMax2, uMin2, uInt, uIx, startU, gam_fn, gam_gl, tab_xcs, tab_sub, UD_nx, UD_rt, UD_bk, UD_ct, UD_ex, spAt, glAt, gls, seqOf, List.map_cons, List.map_nil, List.cons_append, List.nil_append, List.length_cons, List.length_nil, List.replicate, Nat.reduceAdd, Nat.reduceSub, Nat.zero_add, reduceIte, Bool.false_eq_true, Bool.true_eq_false, Bool.false_bne, Bool.true_bne, Bool.not_true, Bool.not_false, Bool.not_not, List.reverse_cons, List.reverse_nil, Option.map_some, Option.map_none, up_same, uTuple, uList, uSet, atI_zero, atI_one, ixN_20, ixN_zero, List.set_cons_zero, uPow, t2__law_points, trG, cl__law_points]
      refine ⟨p, g, 4, rfl, hP2, by decide, by decide, fun r G3 r0 r1 hP3 f3 => ?_⟩
      have h3 := f3 _ _ np.symm ng.symm h2
      simp only [trSs, trS, trE, trT, trX, pl, trA, trO, trC, trI, uBin_s, uUn_s, uVar_s, uC_s, getS, setS, uOp, uAdd, uSub, uMul, uDiv, uMod, uPow, uNeg, uCmp, uEqF, uLt, uLe, uGt, uGe, uIsF, isNonU, uTru, Blt.fn, uLen, uAbs, uMax2, uMin2, uInt, uIx, startU, gam_fn, gam_gl, tab_xcs, tab_sub, UD_nx, UD_rt, UD_bk, UD_ct, UD_ex, spAt, glAt, gls, seqOf, List.map_cons, List.map_nil, List.cons_append, List.nil_append, List.length_cons, List.length_nil, List.replicate, Nat.reduceAdd, Nat.reduceSub, Nat.zero_add, reduceIte, Bool.false_eq_true, Bool.true_eq_false, Bool.false_bne, Bool.true_bne, Bool.not_true, Bool.not_false, Bool.not_not, List.reverse_cons, List.reverse_nil, Option.map_some, Option.map_none, up_same, uTuple, uList, uSet, atI_zero, atI_one, ixN_20, ixN_zero, List.set_cons_zero, uPow, t1__law_points, trG, cl__law_points]
      refine ⟨p, g, 9, rfl, hP3, by decide, by decide, fun r2 G4 a b hP4 f4 => ?_⟩
      have h4 := f4 _ _ np.symm ng.symm h3
      have hl2 : (ps ++ [(pos, w)]).length = ps.length + 1 := by simp
      by_cases c : r2 = 0
      · simp only [trSs, trS, trE, trT, trX, pl, trA, trO, trC, trI, uBin_s, uUn_s, uVar_s, uC_s, getS, setS, uOp, uAdd, uSub, uMul, uDiv, uMod, uPow, uNeg, uCmp, uEqF, uLt, uLe, uGt, uGe, uIsF, isNonU, uTru, Blt.fn, uLen, uAbs, uMax2, uMin2, uInt, uIx, startU, gam_fn, gam_gl, tab_xcs, tab_sub, UD_nx, UD_rt, UD_bk, UD_ct, UD_ex, spAt, glAt, gls, seqOf, List.map_cons, List.map_nil, List.cons_append, List.nil_append, List.length_cons, List.length_nil, List.replicate, Nat.reduceAdd, Nat.reduceSub, Nat.zero_add, reduceIte, Bool.false_eq_true, Bool.true_eq_false, Bool.false_bne, Bool.true_bne, Bool.not_true, Bool.not_false, Bool.not_not, List.reverse_cons, List.reverse_nil, Option.map_some, Option.map_none, up_same, uTuple, uList, uSet, atI_zero, atI_one, ixN_20, ixN_zero, List.set_cons_zero, uPow, c, decide_true]
        exact ⟨G4, .refl _, next _ (ps ++ [(pos, w)]) _ _ G4 (by omega) (by omega) ⟨hb, fun a ha => by simp at ha; subst ha; show pos < _; omega⟩ (by omega) (by omega) hP4 ((f2.trans f3).trans f4) h4⟩
      · simp only [trSs, trS, trE, trT, trX, pl, trA, trO, trC, trI, uBin_s, uUn_s, uVar_s, uC_s, getS, setS, uOp, uAdd, uSub, uMul, uDiv, uMod, uPow, uNeg, uCmp, uEqF, uLt, uLe, uGt, uGe, uIsF, isNonU, uTru, Blt.fn, uLen, uAbs, uMax2, uMin2, uInt, uIx, startU, gam_fn, gam_gl, tab_xcs, tab_sub, UD_nx, UD_rt, UD_bk, UD_ct, UD_ex, spAt, glAt, gls, seqOf, List.map_cons, List.map_nil, List.cons_append, List.nil_append, List.length_cons, List.length_nil, List.replicate, Nat.reduceAdd, Nat.reduceSub, Nat.zero_add, reduceIte, Bool.false_eq_true, Bool.true_eq_false, Bool.false_bne, Bool.true_bne, Bool.not_true, Bool.not_false, Bool.not_not, List.reverse_cons, List.reverse_nil, Option.map_some, Option.map_none, up_same, uTuple, uList, uSet, atI_zero, atI_one, ixN_20, ixN_zero, List.set_cons_zero, uPow, c, decide_false]
        exact ⟨G4, .refl _, next _ (ps ++ [(pos, w)]) _ _ G4 (by omega) (by omega) ⟨hb, fun a ha => by simp at ha; subst ha; show pos < _; omega⟩ (by omega) (by omega) hP4 ((f2.trans f3).trans f4) h4⟩
    simp only [trSs, trS, trE, trT, trX, pl, trA, trO, trC, trI, uBin_s, uUn_s, uVar_s, uC_s, getS, setS, uOp, uAdd, uSub, uMul, uDiv, uMod, uPow, uNeg, uCmp, uEqF, uLt, uLe, uGt, uGe, uIsF, isNonU, uTru, Blt.fn, uLen, uAbs, uMax2, uMin2, uInt, uIx, startU, gam_fn, gam_gl, tab_xcs, tab_sub, UD_nx, UD_rt, UD_bk, UD_ct, UD_ex, spAt, glAt, gls, seqOf, List.map_cons, List.map_nil, List.cons_append, List.nil_append, List.length_cons, List.length_nil, List.replicate, Nat.reduceAdd, Nat.reduceSub, Nat.zero_add, reduceIte, Bool.false_eq_true, Bool.true_eq_false, Bool.false_bne, Bool.true_bne, Bool.not_true, Bool.not_false, Bool.not_not, List.reverse_cons, List.reverse_nil, Option.map_some, Option.map_none, up_same, uTuple, uList, uSet, atI_zero, atI_one, ixN_20, ixN_zero, List.set_cons_zero, uPow, trG, l1__law_points, cl__law_points]
    refine ⟨p, g, rfl, hP, fun w G1 w0 w1 hP1 f1 => ?_⟩
    have h1 := f1 _ _ np.symm ng.symm hra
    simp only [trSs, trS, trE, trT, trX, pl, trA, trO, trC, trI, uBin_s, uUn_s, uVar_s, uC_s, getS, setS, uOp, uAdd, uSub, uMul, uDiv, uMod, uPow, uNeg, uCmp, uEqF, uLt, uLe, uGt, uGe, uIsF, isNonU, uTru, Blt.fn, uLen, uAbs, uMax2, uMin2, uInt, uIx, startU, gam_fn, gam_gl, tab_xcs, tab_sub, UD_nx, UD_rt, UD_bk, UD_ct, UD_ex, spAt, glAt, gls, seqOf, List.map_cons, List.map_nil, List.cons_append, List.nil_append, List.length_cons, List.length_nil, List.replicate, Nat.reduceAdd, Nat.reduceSub, Nat.zero_add, reduceIte, Bool.false_eq_true, Bool.true_eq_false, Bool.false_bne, Bool.true_bne, Bool.not_true, Bool.not_false, Bool.not_not, List.reverse_cons, List.reverse_nil, Option.map_some, Option.map_none, up_same, uTuple, uList, uSet, atI_zero, atI_one, ixN_20, ixN_zero, List.set_cons_zero, uPow, t4__law_points, trG, cl__law_points]
    refine ⟨p, g, 3, rfl, hP1, by decide, by decide, fun r G2 a b hP2 f2 => ?_⟩
    have h2 := f2 _ _ np.symm ng.symm h1
    by_cases c : r = 0
    · simp only [trSs, trS, trE, trT, trX, pl, trA, trO, trC, trI, uBin_s, uUn_s, uVar_s, uC_s, getS, setS, uOp, uAdd, uSub, uMul, uDiv, uMod, uPow, uNeg, uCmp, uEqF, uLt, uLe, uGt, uGe, uIsF, isNonU, uTru, Blt.fn, uLen, uAbs, uMax2, uMin2, uInt, uIx, startU, gam_fn, gam_gl, tab_xcs, tab_sub, UD_nx, UD_rt, UD_bk, UD_ct, UD_ex, spAt, glAt, gls, seqOf, List.map_cons, List.map_nil, List.cons_append, List.nil_append, List.length_cons, List.length_nil, List.replicate, Nat.reduceAdd, Nat.reduceSub, Nat.zero_add, reduceIte, Bool.false_eq_true, Bool.true_eq_false, Bool.false_bne, Bool.true_bne, Bool.not_true, Bool.not_false, Bool.not_not, List.reverse_cons, List.reverse_nil, Option.map_some, Option.map_none, up_same, uTuple, uList, uSet, atI_zero, atI_one, ixN_20, ixN_zero, List.set_cons_zero, uPow, c, decide_true]
      exact st3 4096 G2 _ (by decide) (by decide) hP2 ((hf.trans f1).trans f2) h2
    · simp only [trSs, trS, trE, trT, trX, pl, trA, trO, trC, trI, uBin_s, uUn_s, uVar_s, uC_s, getS, setS, uOp, uAdd, uSub, uMul, uDiv, uMod, uPow, uNeg, uCmp, uEqF, uLt, uLe, uGt, uGe, uIsF, isNonU, uTru, Blt.fn, uLen, uAbs, uMax2, uMin2, uInt, uIx, startU, gam_fn, gam_gl, tab_xcs, tab_sub, UD_nx, UD_rt, UD_bk, UD_ct, UD_ex, spAt, glAt, gls, seqOf, List.map_cons, List.map_nil, List.cons_append, List.nil_append, List.length_cons, List.length_nil, List.replicate, Nat.reduceAdd, Nat.reduceSub, Nat.zero_add, reduceIte, Bool.false_eq_true, Bool.true_eq_false, Bool.false_bne, Bool.true_bne, Bool.not_true, Bool.not_false, Bool.not_not, List.reverse_cons, List.reverse_nil, Option.map_some, Option.map_none, up_same, uTuple, uList, uSet, atI_zero, atI_one, ixN_20, ixN_zero, List.set_cons_zero, uPow, c, decide_false]
      exact st3 w G2 _ w0 w1 hP2 ((hf.trans f1).trans f2) h2
theorem w__law_points (us : List U) (G : UH) (Q : UK) (E : UXn → UH → Prop) (h : sp__law_points us G Q E) : trSs (TB cl__law_points) (GM cl__law_points) b__law_points (UD Q E) (startU n__law_points us) G := by
  obtain ⟨p, g, rfl, hP, q⟩ := h
  have lg := line_ge
  have st7 : ∀ (size pos : Int) (G1 : UH), 1 ≤ size → size ≤ 64 → -1048575 ≤ pos → pos ≤ 10 → Pur G1 p g → Fr p g G G1 → trSs (TB cl__law_points) (GM cl__law_points) t7__law_points (UD Q E) [some (.ref p), some (.int size), some (.int pos), none, none, none] G1 := by
    intro size pos G1 s0 s1 p0 p1 hP1 f1
    simp only [trSs, trS, trE, trT, trX, pl, trA, trO, trC, trI, uBin_s, uUn_s, uVar_s, uC_s, getS, setS, uOp, uAdd, uSub, uMul, uDiv, uMod, uPow, uNeg, uCmp, uEqF, uLt, uLe, uGt, uGe, uIsF, isNonU, uTru, Blt.fn, uLen, uAbs, uMax2, uMin2, uInt, uIx, startU, gam_fn, gam_gl, tab_xcs, tab_sub, UD_nx, UD_rt, UD_bk, UD_ct, UD_ex, spAt, glAt, gls, seqOf, List.map_cons, List.map_nil, List.cons_append, List.nil_append, List.length_cons, List.length_nil, List.replicate, Nat.reduceAdd, Nat.reduceSub, Nat.zero_add, reduceIte, Bool.false_eq_true, Bool.true_eq_false, Bool.false_bne, Bool.true_bne, Bool.not_true, Bool.not_false, Bool.not_not, List.reverse_cons, List.reverse_nil, Option.map_some, Option.map_none, up_same, uTuple, uList, uSet, atI_zero, atI_one, ixN_20, ixN_zero, List.set_cons_zero, uPow, t7__law_points, trG]
    refine ⟨by omega, fun ra hra => ?_⟩
    have hne := hP1.ne hra
    simp only [trSs, trS, trE, trT, trX, pl, trA, trO, trC, trI, uBin_s, uUn_s, uVar_s, uC_s, getS, setS, uOp, uAdd, uSub, uMul, uDiv, uMod, uPow, uNeg, uCmp, uEqF, uLt, uLe, uGt, uGe, uIsF, isNonU, uTru, Blt.fn, uLen, uAbs, uMax2, uMin2, uInt, uIx, startU, gam_fn, gam_gl, tab_xcs, tab_sub, UD_nx, UD_rt, UD_bk, UD_ct, UD_ex, spAt, glAt, gls, seqOf, List.map_cons, List.map_nil, List.cons_append, List.nil_append, List.length_cons, List.length_nil, List.replicate, Nat.reduceAdd, Nat.reduceSub, Nat.zero_add, reduceIte, Bool.false_eq_true, Bool.true_eq_false, Bool.false_bne, Bool.true_bne, Bool.not_true, Bool.not_false, Bool.not_not, List.reverse_cons, List.reverse_nil, Option.map_some, Option.map_none, up_same, uTuple, uList, uSet, atI_zero, atI_one, ixN_20, ixN_zero, List.set_cons_zero, uPow, t6__law_points]
    refine ⟨by unfold small62; omega, ?_⟩
    rw [rangeU_map]
    refine l__law_points (G0 := G1) hne.1 hne.2 hra _ (fun o2 o4 o5 ps G2 h1 h2 h3 hP2 f2 h4 => ?_) _ pos [] _ _ _ (by rw [rangeI_len]; simp; omega) (by rw [rangeI_len]; simp; omega) ⟨trivial, by simp⟩ p0 (by rw [rangeI_len]; omega) (hP1.upf hra) (Fr.of_le (.new hra)) up_same
    simp only [trSs, trS, trE, trT, trX, pl, trA, trO, trC, trI, uBin_s, uUn_s, uVar_s, uC_s, getS, setS, uOp, uAdd, uSub, uMul, uDiv, uMod, uPow, uNeg, uCmp, uEqF, uLt, uLe, uGt, uGe, uIsF, isNonU, uTru, Blt.fn, uLen, uAbs, uMax2, uMin2, uInt, uIx, startU, gam_fn, gam_gl, tab_xcs, tab_sub, UD_nx, UD_rt, UD_bk, UD_ct, UD_ex, spAt, glAt, gls, seqOf, List.map_cons, List.map_nil, List.cons_append, List.nil_append, List.length_cons, List.length_nil, List.replicate, Nat.reduceAdd, Nat.reduceSub, Nat.zero_add, reduceIte, Bool.false_eq_true, Bool.true_eq_false, Bool.false_bne, Bool.true_bne, Bool.not_true, Bool.not_false, Bool.not_not, List.reverse_cons, List.reverse_nil, Option.map_some, Option.map_none, up_same, uTuple, uList, uSet, atI_zero, atI_one, ixN_20, ixN_zero, List.set_cons_zero, uPow, t5__law_points, h4]
    exact fin.of (q ps G2 h1 h2 h3 hP2 (f1.trans f2))
  have st9 : ∀ (size : Int) (G1 : UH), 1 ≤ size → size ≤ 64 → Pur G1 p g → Fr p g G G1 → trSs (TB cl__law_points) (GM cl__law_points) t9__law_points (UD Q E) [some (.ref p), some (.int size), none, none, none, none] G1 := by
    intro size G1 s0 s1 hP1 f1
    simp only [trSs, trS, trE, trT, trX, pl, trA, trO, trC, trI, uBin_s, uUn_s, uVar_s, uC_s, getS, setS, uOp, uAdd, uSub, uMul, uDiv, uMod, uPow, uNeg, uCmp, uEqF, uLt, uLe, uGt, uGe, uIsF, isNonU, uTru, Blt.fn, uLen, uAbs, uMax2, uMin2, uInt, uIx, startU, gam_fn, gam_gl, tab_xcs, tab_sub, UD_nx, UD_rt, UD_bk, UD_ct, UD_ex, spAt, glAt, gls, seqOf, List.map_cons, List.map_nil, List.cons_append, List.nil_append, List.length_cons, List.length_nil, List.replicate, Nat.reduceAdd, Nat.reduceSub, Nat.zero_add, reduceIte, Bool.false_eq_true, Bool.true_eq_false, Bool.false_bne, Bool.true_bne, Bool.not_true, Bool.not_false, Bool.not_not, List.reverse_cons, List.reverse_nil, Option.map_some, Option.map_none, up_same, uTuple, uList, uSet, atI_zero, atI_one, ixN_20, ixN_zero, List.set_cons_zero, uPow, t9__law_points, trG, cl__law_points]
    refine ⟨p, g, 16, rfl, hP1, by decide, by decide, fun r G2 r0 r1 hP2 f2 => ?_⟩
    simp only [trSs, trS, trE, trT, trX, pl, trA, trO, trC, trI, uBin_s, uUn_s, uVar_s, uC_s, getS, setS, uOp, uAdd, uSub, uMul, uDiv, uMod, uPow, uNeg, uCmp, uEqF, uLt, uLe, uGt, uGe, uIsF, isNonU, uTru, Blt.fn, uLen, uAbs, uMax2, uMin2, uInt, uIx, startU, gam_fn, gam_gl, tab_xcs, tab_sub, UD_nx, UD_rt, UD_bk, UD_ct, UD_ex, spAt, glAt, gls, seqOf, List.map_cons, List.map_nil, List.cons_append, List.nil_append, List.length_cons, List.length_nil, List.replicate, Nat.reduceAdd, Nat.reduceSub, Nat.zero_add, reduceIte, Bool.false_eq_true, Bool.true_eq_false, Bool.false_bne, Bool.true_bne, Bool.not_true, Bool.not_false, Bool.not_not, List.reverse_cons, List.reverse_nil, Option.map_some, Option.map_none, up_same, uTuple, uList, uSet, atI_zero, atI_one, ixN_20, ixN_zero, List.set_cons_zero, uPow, t8__law_points, trG, cl__law_points]
    refine ⟨p, g, 8, rfl, hP2, by decide, by decide, fun r2 G3 a b hP3 f3 => ?_⟩
    by_cases c : r2 = 0
    · simp only [trSs, trS, trE, trT, trX, pl, trA, trO, trC, trI, uBin_s, uUn_s, uVar_s, uC_s, getS, setS, uOp, uAdd, uSub, uMul, uDiv, uMod, uPow, uNeg, uCmp, uEqF, uLt, uLe, uGt, uGe, uIsF, isNonU, uTru, Blt.fn, uLen, uAbs, uMax2, uMin2, uInt, uIx, startU, gam_fn, gam_gl, tab_xcs, tab_sub, UD_nx, UD_rt, UD_bk, UD_ct, UD_ex, spAt, glAt, gls, seqOf, List.map_cons, List.map_nil, List.cons_append, List.nil_append, List.length_cons, List.length_nil, List.replicate, Nat.reduceAdd, Nat.reduceSub, Nat.zero_add, reduceIte, Bool.false_eq_true, Bool.true_eq_false, Bool.false_bne, Bool.true_bne, Bool.not_true, Bool.not_false, Bool.not_not, List.reverse_cons, List.reverse_nil, Option.map_some, Option.map_none, up_same, uTuple, uList, uSet, atI_zero, atI_one, ixN_20, ixN_zero, List.set_cons_zero, uPow, c, decide_true]
      exact st7 size (-1048575) G3 s0 s1 (by decide) (by decide) hP3 ((f1.trans f2).trans f3)
    · simp only [trSs, trS, trE, trT, trX, pl, trA, trO, trC, trI, uBin_s, uUn_s, uVar_s, uC_s, getS, setS, uOp, uAdd, uSub, uMul, uDiv, uMod, uPow, uNeg, uCmp, uEqF, uLt, uLe, uGt, uGe, uIsF, isNonU, uTru, Blt.fn, uLen, uAbs, uMax2, uMin2, uInt, uIx, startU, gam_fn, gam_gl, tab_xcs, tab_sub, UD_nx, UD_rt, UD_bk, UD_ct, UD_ex, spAt, glAt, gls, seqOf, List.map_cons, List.map_nil, List.cons_append, List.nil_append, List.length_cons, List.length_nil, List.replicate, Nat.reduceAdd, Nat.reduceSub, Nat.zero_add, reduceIte, Bool.false_eq_true, Bool.true_eq_false, Bool.false_bne, Bool.true_bne, Bool.not_true, Bool.not_false, Bool.not_not, List.reverse_cons, List.reverse_nil, Option.map_some, Option.map_none, up_same, uTuple, uList, uSet, atI_zero, atI_one, ixN_20, ixN_zero, List.set_cons_zero, uPow, c, decide_false]
      exact st7 size _ G3 s0 s1 (by omega) (by omega) hP3 ((f1.trans f2).trans f3)
  simp only [trSs, trS, trE, trT, trX, pl, trA, trO, trC, trI, uBin_s, uUn_s, uVar_s, uC_s, getS, setS, uOp, uAdd, uSub, uMul, uDiv, uMod, uPow, uNeg, uCmp, uEqF, uLt, uLe, uGt, uGe, uIsF, isNonU, uTru, Blt.fn, uLen, uAbs, uMax2, uMin2, uInt, uIx, startU, gam_fn, gam_gl, tab_xcs, tab_sub, UD_nx, UD_rt, UD_bk, UD_ct, UD_ex, spAt, glAt, gls, seqOf, List.map_cons, List.map_nil, List.cons_append, List.nil_append, List.length_cons, List.length_nil, List.replicate, Nat.reduceAdd, Nat.reduceSub, Nat.zero_add, reduceIte, Bool.false_eq_true, Bool.true_eq_false, Bool.false_bne, Bool.true_bne, Bool.not_true, Bool.not_false, Bool.not_not, List.reverse_cons, List.reverse_nil, Option.map_some, Option.map_none, up_same, uTuple, uList, uSet, atI_zero, atI_one, ixN_20, ixN_zero, List.set_cons_zero, uPow, b__law_points, n__law_points, trG, cl__law_points]
  refine ⟨p, g, 5, rfl, hP, by decide, by decide, fun r G1 r0 r1 hP1 f1 => ?_⟩
  simp only [trSs, trS, trE, trT, trX, pl, trA, trO, trC, trI, uBin_s, uUn_s, uVar_s, uC_s, getS, setS, uOp, uAdd, uSub, uMul, uDiv, uMod, uPow, uNeg, uCmp, uEqF, uLt, uLe, uGt, uGe, uIsF, isNonU, uTru, Blt.fn, uLen, uAbs, uMax2, uMin2, uInt, uIx, startU, gam_fn, gam_gl, tab_xcs, tab_sub, UD_nx, UD_rt, UD_bk, UD_ct, UD_ex, spAt, glAt, gls, seqOf, List.map_cons, List.map_nil, List.cons_append, List.nil_append, List.length_cons, List.length_nil, List.replicate, Nat.reduceAdd, Nat.reduceSub, Nat.zero_add, reduceIte, Bool.false_eq_true, Bool.true_eq_false, Bool.false_bne, Bool.true_bne, Bool.not_true, Bool.not_false, Bool.not_not, List.reverse_cons, List.reverse_nil, Option.map_some, Option.map_none, up_same, uTuple, uList, uSet, atI_zero, atI_one, ixN_20, ixN_zero, List.set_cons_zero, uPow, t10__law_points, trG, cl__law_points]
  refine ⟨p, g, 16, rfl, hP1, by decide, by decide, fun r2 G2 a b hP2 f2 => ?_⟩
  by_cases c : r2 = 0
  · simp only [trSs, trS, trE, trT, trX, pl, trA, trO, trC, trI, uBin_s, uUn_s, uVar_s, uC_s, getS, setS, uOp, uAdd, uSub, uMul, uDiv, uMod, uPow, uNeg, uCmp, uEqF, uLt, uLe, uGt, uGe, uIsF, isNonU, uTru, Blt.fn, uLen, uAbs, uMax2, uMin2, uInt, uIx, startU, gam_fn, gam_gl, tab_xcs, tab_sub, UD_nx, UD_rt, UD_bk, UD_ct, UD_ex, spAt, glAt, gls, seqOf, List.map_cons, List.map_nil, List.cons_append, List.nil_append, List.length_cons, List.length_nil, List.replicate, Nat.reduceAdd, Nat.reduceSub, Nat.zero_add, reduceIte, Bool.false_eq_true, Bool.true_eq_false, Bool.false_bne, Bool.true_bne, Bool.not_true, Bool.not_false, Bool.not_not, List.reverse_cons, List.reverse_nil, Option.map_some, Option.map_none, up_same, uTuple, uList, uSet, atI_zero, atI_one, ixN_20, ixN_zero, List.set_cons_zero, uPow, c, decide_true]
    exact st9 64 G2 (by decide) (by decide) hP2 (f1.trans f2)
  · simp only [trSs, trS, trE, trT, trX, pl, trA, trO, trC, trI, uBin_s, uUn_s, uVar_s, uC_s, getS, setS, uOp, uAdd, uSub, uMul, uDiv, uMod, uPow, uNeg, uCmp, uEqF, uLt, uLe, uGt, uGe, uIsF, isNonU, uTru, Blt.fn, uLen, uAbs, uMax2, uMin2, uInt, uIx, startU, gam_fn, gam_gl, tab_xcs, tab_sub, UD_nx, UD_rt, UD_bk, UD_ct, UD_ex, spAt, glAt, gls, seqOf, List.map_cons, List.map_nil, List.cons_append, List.nil_append, List.length_cons, List.length_nil, List.replicate, Nat.reduceAdd, Nat.reduceSub, Nat.zero_add, reduceIte, Bool.false_eq_true, Bool.true_eq_false, Bool.false_bne, Bool.true_bne, Bool.not_true, Bool.not_false, Bool.not_not, List.reverse_cons, List.reverse_nil, Option.map_some, Option.map_none, up_same, uTuple, uList, uSet, atI_zero, atI_one, ixN_20, ixN_zero, List.set_cons_zero, uPow, c, decide_false]
    exact st9 _ G2 (by omega) (by omega) hP2 (f1.trans f2)
end K79
set_option Elab.async false
set_option linter.all false
set_option autoImplicit false
set_option maxRecDepth 100000
set_option maxHeartbeats 4000000
namespace K79
open PySem PySem.Spec L2 UL
/-! ### the curve, plainly -/
theorem curI_own {a : Int × Int} {r : List (Int × Int)} : curI (a :: r) a.1 = a.2 := by
  cases r with
  | nil => rfl
  | cons b r =>
    show (if a.1 ≤ a.1 then a.2 else _) = _
    rw [if_pos (Int.le_refl _)]
theorem curI_step {c d : Int × Int} {r : List (Int × Int)} {k : Int} (h1 : c.1 < d.1) (h2 : d.1 ≤ k) : curI (c :: d :: r) k = curI (d :: r) k := by
  show (if k ≤ c.1 then c.2 else if k ≤ d.1 then c.2 + (d.2 - c.2) * (k - c.1) / (d.1 - c.1) else curI (d :: r) k) = _
  rw [if_neg (by omega)]
  by_cases e : k ≤ d.1
  · have : k = d.1 := by omega
    subst this
    rw [if_pos e, curI_own, Int.mul_ediv_cancel _ (by omega)]
    omega
  · rw [if_neg e]
theorem okP_lt : ∀ {a : Int × Int} {r : List (Int × Int)}, okP (a :: r) → ∀ b ∈ r, a.1 < b.1
  | a, [], _, b, h => by cases h
  | a, c :: r, ho, b, h => by
    rw [List.mem_cons] at h
    rcases h with rfl | h
    · exact ho.2.1
    · have := okP_lt ho.2.2 b h
      have := ho.2.1
      omega
theorem split_at (k : Int) : ∀ ps : List (Int × Int), okP ps → ∃ pre post, ps = pre ++ post ∧ ps.filter (fun a => decide (a.1 ≤ k)) = pre ∧ (∀ a ∈ pre, a.1 ≤ k) ∧ ∀ a ∈ post, k < a.1
  | [], _ => ⟨[], [], rfl, rfl, by simp, by simp⟩
  | a :: r, ho => by
    by_cases c : a.1 ≤ k
    · obtain ⟨pre, post, h1, h2, h3, h4⟩ := split_at k r (okP_tail ho)
      refine ⟨a :: pre, post, by rw [h1]; rfl, ?_, fun b hb => ?_, h4⟩
      · rw [List.filter_cons, if_pos (decide_eq_true c), h2]
      · rw [List.mem_cons] at hb
        rcases hb with rfl | hb
        · exact c
        · exact h3 b hb
    · have hl : ∀ b ∈ r, k < b.1 := fun b hb => by have := okP_lt ho b hb; omega
      refine ⟨[], a :: r, rfl, ?_, by simp, fun b hb => ?_⟩
      · rw [List.filter_eq_nil_iff]
        intro b hb
        rw [List.mem_cons] at hb
        rcases hb with rfl | hb
        · simpa using c
        · have := hl b hb
          simp
          omega
      · rw [List.mem_cons] at hb
        rcases hb with rfl | hb
        · omega
        · exact hl b hb
theorem curI_pre : ∀ (pre : List (Int × Int)) (a : Int × Int) (post : List (Int × Int)) (k : Int), okP (pre ++ a :: post) → (∀ b ∈ pre, b.1 ≤ k) → a.1 ≤ k → curI (pre ++ a :: post) k = curI (a :: post) k
  | [], _, _, _, _, _, _ => rfl
  | [c], a, post, k, ho, h, ha => curI_step ho.2.1 ha
  | c :: d :: pre, a, post, k, ho, h, ha => by
    show curI (c :: d :: (pre ++ a :: post)) k = _
    rw [curI_step ho.2.1 (h d (by simp))]
    exact curI_pre (d :: pre) a post k (okP_tail ho) (fun b hb => h b (List.mem_cons_of_mem _ hb)) ha
theorem floor_neg {r w : Int} (hw : 0 < w) : -((w - 1 - r) / w) = r / w := by
  have e := Int.mul_ediv_add_emod r w
  have m0 := Int.emod_nonneg r (show w ≠ 0 by omega)
  have m1 := Int.emod_lt_of_pos r hw
  have : w - 1 - r = (w - 1 - r % w) + w * (-(r / w)) := by rw [Int.mul_neg]; omega
  rw [this, Int.add_mul_ediv_left _ _ (by omega), Int.ediv_eq_zero_of_lt (by omega) (by omega)]
  omega
/-! ### _law_curve -/
def sp__law_curve : USp := fun us G Q _ => ∃ (ps : List (Int × Int)) (k : Int), us = [.tup (ps.map ptU), .int k] ∧ ps ≠ [] ∧ ps.length ≤ 64 ∧ okP ps ∧ ∀ G', Le G G' → Q (.int (curI ps k)) G'
def cl__law_curve : List (Str × USp) := []
theorem filt_pt (k : Int) : ∀ ps : List (Int × Int), ((ps.map ptU).filter fun y => match y with
    | .tup [.int p, _] => decide (p ≤ k)
    | _ => false).map id = (ps.filter fun a => decide (a.1 ≤ k)).map ptU
  | [] => rfl
  | a :: ps => by
    have ih := filt_pt k ps
    rw [List.map_cons, List.filter_cons, List.filter_cons]
    show List.map id (if decide (a.1 ≤ k) = true then _ else _) = _
    by_cases c : a.1 ≤ k
    · rw [if_pos (decide_eq_true c), if_pos (decide_eq_true c), List.map_cons, List.map_cons, ih]
      rfl
    · rw [if_neg (by simpa using c), if_neg (by simpa using c)]
      exact ih
theorem w__law_curve (us : List U) (G : UH) (Q : UK) (E : UXn → UH → Prop) (h : sp__law_curve us G Q E) : trSs (TB cl__law_curve) (GM cl__law_curve) b__law_curve (UD Q E) (startU n__law_curve us) G := by
  obtain ⟨ps, k, rfl, hne, hl, ho, q⟩ := h
  have lg := line_ge
  obtain ⟨pre, post, e1, e2, h1, h2⟩ := split_at k ps ho
  simp only [trSs, trS, trE, trT, trX, pl, trA, trO, trC, trI, uBin_s, uUn_s, uVar_s, uC_s, getS, setS, uOp, uAdd, uSub, uMul, uDiv, uMod, uPow, uNeg, uCmp, uEqF, uLt, uLe, uGt, uGe, uIsF, isNonU, uTru, Blt.fn, uLen, uAbs, uMax2, uMin2, uInt, uIx, startU, gam_fn, gam_gl, tab_xcs, tab_sub, UD_nx, UD_rt, UD_bk, UD_ct, UD_ex, spAt, glAt, gls, seqOf, List.map_cons, List.map_nil, List.cons_append, List.nil_append, List.length_cons, List.length_nil, List.replicate, Nat.reduceAdd, Nat.reduceSub, Nat.zero_add, reduceIte, Bool.false_eq_true, Bool.true_eq_false, Bool.false_bne, Bool.true_bne, Bool.not_true, Bool.not_false, Bool.not_not, List.reverse_cons, List.reverse_nil, Option.map_some, Option.map_none, up_same, uTuple, uList, uSet, atI_zero, atI_one, ixN_20, ixN_zero, List.set_cons_zero, uPow, b__law_curve, n__law_curve]
  intro rb hrb
  refine lcU_pure (c := fun y => match y with
    | .tup [.int p, _] => decide (p ≤ k)
    | _ => false) (f := id) (fun _ => depsNil) _ [] (by rw [List.length_map, List.length_nil]; omega) ?_ ?_
  · intro y hy acc K1 K0 k1 k0
    obtain ⟨a, ha, rfl⟩ := List.mem_map.mp hy
    simp only [trSs, trS, trE, trT, trX, pl, trA, trO, trC, trI, uBin_s, uUn_s, uVar_s, uC_s, getS, setS, uOp, uAdd, uSub, uMul, uDiv, uMod, uPow, uNeg, uCmp, uEqF, uLt, uLe, uGt, uGe, uIsF, isNonU, uTru, Blt.fn, uLen, uAbs, uMax2, uMin2, uInt, uIx, startU, gam_fn, gam_gl, tab_xcs, tab_sub, UD_nx, UD_rt, UD_bk, UD_ct, UD_ex, spAt, glAt, gls, seqOf, List.map_cons, List.map_nil, List.cons_append, List.nil_append, List.length_cons, List.length_nil, List.replicate, Nat.reduceAdd, Nat.reduceSub, Nat.zero_add, reduceIte, Bool.false_eq_true, Bool.true_eq_false, Bool.false_bne, Bool.true_bne, Bool.not_true, Bool.not_false, Bool.not_not, List.reverse_cons, List.reverse_nil, Option.map_some, Option.map_none, up_same, uTuple, uList, uSet, atI_zero, atI_one, ixN_20, ixN_zero, List.set_cons_zero, uPow, slotsG, slotsGs, wipeU, trG, ptU]
    by_cases c : a.1 ≤ k
    · simp only [trSs, trS, trE, trT, trX, pl, trA, trO, trC, trI, uBin_s, uUn_s, uVar_s, uC_s, getS, setS, uOp, uAdd, uSub, uMul, uDiv, uMod, uPow, uNeg, uCmp, uEqF, uLt, uLe, uGt, uGe, uIsF, isNonU, uTru, Blt.fn, uLen, uAbs, uMax2, uMin2, uInt, uIx, startU, gam_fn, gam_gl, tab_xcs, tab_sub, UD_nx, UD_rt, UD_bk, UD_ct, UD_ex, spAt, glAt, gls, seqOf, List.map_cons, List.map_nil, List.cons_append, List.nil_append, List.length_cons, List.length_nil, List.replicate, Nat.reduceAdd, Nat.reduceSub, Nat.zero_add, reduceIte, Bool.false_eq_true, Bool.true_eq_false, Bool.false_bne, Bool.true_bne, Bool.not_true, Bool.not_false, Bool.not_not, List.reverse_cons, List.reverse_nil, Option.map_some, Option.map_none, up_same, uTuple, uList, uSet, atI_zero, atI_one, ixN_20, ixN_zero, List.set_cons_zero, uPow, c, decide_true]
      exact k1 (decide_eq_true c)
    · simp only [trSs, trS, trE, trT, trX, pl, trA, trO, trC, trI, uBin_s, uUn_s, uVar_s, uC_s, getS, setS, uOp, uAdd, uSub, uMul, uDiv, uMod, uPow, uNeg, uCmp, uEqF, uLt, uLe, uGt, uGe, uIsF, isNonU, uTru, Blt.fn, uLen, uAbs, uMax2, uMin2, uInt, uIx, startU, gam_fn, gam_gl, tab_xcs, tab_sub, UD_nx, UD_rt, UD_bk, UD_ct, UD_ex, spAt, glAt, gls, seqOf, List.map_cons, List.map_nil, List.cons_append, List.nil_append, List.length_cons, List.length_nil, List.replicate, Nat.reduceAdd, Nat.reduceSub, Nat.zero_add, reduceIte, Bool.false_eq_true, Bool.true_eq_false, Bool.false_bne, Bool.true_bne, Bool.not_true, Bool.not_false, Bool.not_not, List.reverse_cons, List.reverse_nil, Option.map_some, Option.map_none, up_same, uTuple, uList, uSet, atI_zero, atI_one, ixN_20, ixN_zero, List.set_cons_zero, uPow, c, decide_false]
      exact k0 (decide_eq_false c)
  · rw [List.nil_append, filt_pt, e2]
    have lG := Le.new hrb (o := .lst (pre.map ptU))
    have hb : UL.up G rb (.lst (pre.map ptU)) rb = some (.lst (pre.map ptU)) := up_same
    generalize UL.up G rb _ = G1 at lG hb ⊢
    have q1 := q G1 lG
    rcases List.eq_nil_or_concat pre with rfl | ⟨pre', a, rfl⟩
    · -- all behind
      cases post with
      | nil => exact absurd e1 hne
      | cons b r =>
        rw [List.nil_append] at e1
        subst e1
        have hb1 := h2 b List.mem_cons_self
        have e5 : curI (b :: r) k = b.2 := by
          cases r with
          | nil => rfl
          | cons d r =>
            show (if k ≤ b.1 then b.2 else _) = _
            rw [if_pos (by omega)]
        rw [e5] at q1
        simp only [trSs, trS, trE, trT, trX, pl, trA, trO, trC, trI, uBin_s, uUn_s, uVar_s, uC_s, getS, setS, uOp, uAdd, uSub, uMul, uDiv, uMod, uPow, uNeg, uCmp, uEqF, uLt, uLe, uGt, uGe, uIsF, isNonU, uTru, Blt.fn, uLen, uAbs, uMax2, uMin2, uInt, uIx, startU, gam_fn, gam_gl, tab_xcs, tab_sub, UD_nx, UD_rt, UD_bk, UD_ct, UD_ex, spAt, glAt, gls, seqOf, List.map_cons, List.map_nil, List.cons_append, List.nil_append, List.length_cons, List.length_nil, List.replicate, Nat.reduceAdd, Nat.reduceSub, Nat.zero_add, reduceIte, Bool.false_eq_true, Bool.true_eq_false, Bool.false_bne, Bool.true_bne, Bool.not_true, Bool.not_false, Bool.not_not, List.reverse_cons, List.reverse_nil, Option.map_some, Option.map_none, up_same, uTuple, uList, uSet, atI_zero, atI_one, ixN_20, ixN_zero, List.set_cons_zero, uPow, t8__law_curve, hb, ptU, show decide ((((0 : Nat) : Int)) = 0) = true from rfl]
        exact fin.of q1
    · rw [List.concat_eq_append] at *
      have ha := h1 a (by simp)
      have hlen : ¬ (((pre' ++ [a]).map ptU).length : Int) = 0 := by
        rw [List.length_map, List.length_append, List.length_singleton]
        omega
      have hpl : (((pre' ++ [a]).map ptU).length : Int) - 1 = pre'.length := by
        rw [List.length_map, List.length_append, List.length_singleton]
        omega
      have eb : atI ((pre' ++ [a]).map ptU) (pre'.length : Int) = some (ptU a) := at_mid (pre := pre') (r := []) rfl
      simp only [trSs, trS, trE, trT, trX, pl, trA, trO, trC, trI, uBin_s, uUn_s, uVar_s, uC_s, getS, setS, uOp, uAdd, uSub, uMul, uDiv, uMod, uPow, uNeg, uCmp, uEqF, uLt, uLe, uGt, uGe, uIsF, isNonU, uTru, Blt.fn, uLen, uAbs, uMax2, uMin2, uInt, uIx, startU, gam_fn, gam_gl, tab_xcs, tab_sub, UD_nx, UD_rt, UD_bk, UD_ct, UD_ex, spAt, glAt, gls, seqOf, List.map_cons, List.map_nil, List.cons_append, List.nil_append, List.length_cons, List.length_nil, List.replicate, Nat.reduceAdd, Nat.reduceSub, Nat.zero_add, reduceIte, Bool.false_eq_true, Bool.true_eq_false, Bool.false_bne, Bool.true_bne, Bool.not_true, Bool.not_false, Bool.not_not, List.reverse_cons, List.reverse_nil, Option.map_some, Option.map_none, up_same, uTuple, uList, uSet, atI_zero, atI_one, ixN_20, ixN_zero, List.set_cons_zero, uPow, t8__law_curve, hb, hlen, decide_false]
      simp only [trSs, trS, trE, trT, trX, pl, trA, trO, trC, trI, uBin_s, uUn_s, uVar_s, uC_s, getS, setS, uOp, uAdd, uSub, uMul, uDiv, uMod, uPow, uNeg, uCmp, uEqF, uLt, uLe, uGt, uGe, uIsF, isNonU, uTru, Blt.fn, uLen, uAbs, uMax2, uMin2, uInt, uIx, startU, gam_fn, gam_gl, tab_xcs, tab_sub, UD_nx, UD_rt, UD_bk, UD_ct, UD_ex, spAt, glAt, gls, seqOf, List.map_cons, List.map_nil, List.cons_append, List.nil_append, List.length_cons, List.length_nil, List.replicate, Nat.reduceAdd, Nat.reduceSub, Nat.zero_add, reduceIte, Bool.false_eq_true, Bool.true_eq_false, Bool.false_bne, Bool.true_bne, Bool.not_true, Bool.not_false, Bool.not_not, List.reverse_cons, List.reverse_nil, Option.map_some, Option.map_none, up_same, uTuple, uList, uSet, atI_zero, atI_one, ixN_20, ixN_zero, List.set_cons_zero, uPow, t7__law_curve, hb, hpl, eb, trG]
      cases post with
      | nil =>
        rw [List.append_nil] at e1
        subst e1
        have e5 : curI (pre' ++ [a]) k = a.2 := by
          rw [curI_pre pre' a [] k ho (fun b hb => h1 b (by simp [hb])) ha]
          rfl
        rw [e5] at q1
        simp only [trSs, trS, trE, trT, trX, pl, trA, trO, trC, trI, uBin_s, uUn_s, uVar_s, uC_s, getS, setS, uOp, uAdd, uSub, uMul, uDiv, uMod, uPow, uNeg, uCmp, uEqF, uLt, uLe, uGt, uGe, uIsF, isNonU, uTru, Blt.fn, uLen, uAbs, uMax2, uMin2, uInt, uIx, startU, gam_fn, gam_gl, tab_xcs, tab_sub, UD_nx, UD_rt, UD_bk, UD_ct, UD_ex, spAt, glAt, gls, seqOf, List.map_cons, List.map_nil, List.cons_append, List.nil_append, List.length_cons, List.length_nil, List.replicate, Nat.reduceAdd, Nat.reduceSub, Nat.zero_add, reduceIte, Bool.false_eq_true, Bool.true_eq_false, Bool.false_bne, Bool.true_bne, Bool.not_true, Bool.not_false, Bool.not_not, List.reverse_cons, List.reverse_nil, Option.map_some, Option.map_none, up_same, uTuple, uList, uSet, atI_zero, atI_one, ixN_20, ixN_zero, List.set_cons_zero, uPow, t6__law_curve, hb, decide_true, ptU]
        exact fin.of q1
      | cons b r =>
        have hb1 := h2 b List.mem_cons_self
        have e0 : ps = pre' ++ a :: b :: r := by rw [e1]; simp
        have hab : a.1 < b.1 := by omega
        have hoa : okP (a :: b :: r) := by
          have : ∀ (l : List (Int × Int)), okP (l ++ a :: b :: r) → okP (a :: b :: r) := by
            intro l
            induction l with
            | nil => exact id
            | cons c l ih => exact fun h => ih (okP_tail h)
          exact this pre' (by rw [← e0]; exact ho)
        have ba := okP_head hoa
        have bb := okP_head (okP_tail hoa)
        have e5 : curI ps k = a.2 + (b.2 - a.2) * (k - a.1) / (b.1 - a.1) := by
          rw [e0, curI_pre pre' a (b :: r) k (by rw [← e0]; exact ho) (fun b hb => h1 b (by simp [hb])) ha]
          show (if k ≤ a.1 then a.2 else if k ≤ b.1 then _ else _) = _
          by_cases c : k ≤ a.1
          · have : k - a.1 = 0 := by omega
            rw [if_pos c, this, Int.mul_zero, Int.zero_ediv, Int.add_zero]
          · rw [if_neg c, if_pos (by omega)]
        rw [e5] at q1
        have hne2 : ¬ (((pre' ++ [a]).map ptU).length : Int) = ((ps.map ptU).length : Int) := by
          rw [List.length_map, List.length_map, e0]
          simp only [List.length_append, List.length_cons, List.length_nil]
          omega
        have et : atI (ps.map ptU) (((pre' ++ [a]).map ptU).length : Int) = some (ptU b) := by
          rw [e1]
          exact at_mid (by rw [List.length_map])
        simp only [trSs, trS, trE, trT, trX, pl, trA, trO, trC, trI, uBin_s, uUn_s, uVar_s, uC_s, getS, setS, uOp, uAdd, uSub, uMul, uDiv, uMod, uPow, uNeg, uCmp, uEqF, uLt, uLe, uGt, uGe, uIsF, isNonU, uTru, Blt.fn, uLen, uAbs, uMax2, uMin2, uInt, uIx, startU, gam_fn, gam_gl, tab_xcs, tab_sub, UD_nx, UD_rt, UD_bk, UD_ct, UD_ex, spAt, glAt, gls, seqOf, List.map_cons, List.map_nil, List.cons_append, List.nil_append, List.length_cons, List.length_nil, List.replicate, Nat.reduceAdd, Nat.reduceSub, Nat.zero_add, reduceIte, Bool.false_eq_true, Bool.true_eq_false, Bool.false_bne, Bool.true_bne, Bool.not_true, Bool.not_false, Bool.not_not, List.reverse_cons, List.reverse_nil, Option.map_some, Option.map_none, up_same, uTuple, uList, uSet, atI_zero, atI_one, ixN_20, ixN_zero, List.set_cons_zero, uPow, t6__law_curve, hb, hne2, decide_false]
        simp only [trSs, trS, trE, trT, trX, pl, trA, trO, trC, trI, uBin_s, uUn_s, uVar_s, uC_s, getS, setS, uOp, uAdd, uSub, uMul, uDiv, uMod, uPow, uNeg, uCmp, uEqF, uLt, uLe, uGt, uGe, uIsF, isNonU, uTru, Blt.fn, uLen, uAbs, uMax2, uMin2, uInt, uIx, startU, gam_fn, gam_gl, tab_xcs, tab_sub, UD_nx, UD_rt, UD_bk, UD_ct, UD_ex, spAt, glAt, gls, seqOf, List.map_cons, List.map_nil, List.cons_append, List.nil_append, List.length_cons, List.length_nil, List.replicate, Nat.reduceAdd, Nat.reduceSub, Nat.zero_add, reduceIte, Bool.false_eq_true, Bool.true_eq_false, Bool.false_bne, Bool.true_bne, Bool.not_true, Bool.not_false, Bool.not_not, List.reverse_cons, List.reverse_nil, Option.map_some, Option.map_none, up_same, uTuple, uList, uSet, atI_zero, atI_one, ixN_20, ixN_zero, List.set_cons_zero, uPow, t5__law_curve, hb, et, trG]
        simp only [trSs, trS, trE, trT, trX, pl, trA, trO, trC, trI, uBin_s, uUn_s, uVar_s, uC_s, getS, setS, uOp, uAdd, uSub, uMul, uDiv, uMod, uPow, uNeg, uCmp, uEqF, uLt, uLe, uGt, uGe, uIsF, isNonU, uTru, Blt.fn, uLen, uAbs, uMax2, uMin2, uInt, uIx, startU, gam_fn, gam_gl, tab_xcs, tab_sub, UD_nx, UD_rt, UD_bk, UD_ct, UD_ex, spAt, glAt, gls, seqOf, List.map_cons, List.map_nil, List.cons_append, List.nil_append, List.length_cons, List.length_nil, List.replicate, Nat.reduceAdd, Nat.reduceSub, Nat.zero_add, reduceIte, Bool.false_eq_true, Bool.true_eq_false, Bool.false_bne, Bool.true_bne, Bool.not_true, Bool.not_false, Bool.not_not, List.reverse_cons, List.reverse_nil, Option.map_some, Option.map_none, up_same, uTuple, uList, uSet, atI_zero, atI_one, ixN_20, ixN_zero, List.set_cons_zero, uPow, t4__law_curve, ptU, trG]
        simp only [trSs, trS, trE, trT, trX, pl, trA, trO, trC, trI, uBin_s, uUn_s, uVar_s, uC_s, getS, setS, uOp, uAdd, uSub, uMul, uDiv, uMod, uPow, uNeg, uCmp, uEqF, uLt, uLe, uGt, uGe, uIsF, isNonU, uTru, Blt.fn, uLen, uAbs, uMax2, uMin2, uInt, uIx, startU, gam_fn, gam_gl, tab_xcs, tab_sub, UD_nx, UD_rt, UD_bk, UD_ct, UD_ex, spAt, glAt, gls, seqOf, List.map_cons, List.map_nil, List.cons_append, List.nil_append, List.length_cons, List.length_nil, List.replicate, Nat.reduceAdd, Nat.reduceSub, Nat.zero_add, reduceIte, Bool.false_eq_true, Bool.true_eq_false, Bool.false_bne, Bool.true_bne, Bool.not_true, Bool.not_false, Bool.not_not, List.reverse_cons, List.reverse_nil, Option.map_some, Option.map_none, up_same, uTuple, uList, uSet, atI_zero, atI_one, ixN_20, ixN_zero, List.set_cons_zero, uPow, t3__law_curve, ptU, trG]
        refine ⟨mulL (by omega) (by omega), ?_⟩
        by_cases c : 0 ≤ (b.2 - a.2) * (k - a.1)
        · simp only [trSs, trS, trE, trT, trX, pl, trA, trO, trC, trI, uBin_s, uUn_s, uVar_s, uC_s, getS, setS, uOp, uAdd, uSub, uMul, uDiv, uMod, uPow, uNeg, uCmp, uEqF, uLt, uLe, uGt, uGe, uIsF, isNonU, uTru, Blt.fn, uLen, uAbs, uMax2, uMin2, uInt, uIx, startU, gam_fn, gam_gl, tab_xcs, tab_sub, UD_nx, UD_rt, UD_bk, UD_ct, UD_ex, spAt, glAt, gls, seqOf, List.map_cons, List.map_nil, List.cons_append, List.nil_append, List.length_cons, List.length_nil, List.replicate, Nat.reduceAdd, Nat.reduceSub, Nat.zero_add, reduceIte, Bool.false_eq_true, Bool.true_eq_false, Bool.false_bne, Bool.true_bne, Bool.not_true, Bool.not_false, Bool.not_not, List.reverse_cons, List.reverse_nil, Option.map_some, Option.map_none, up_same, uTuple, uList, uSet, atI_zero, atI_one, ixN_20, ixN_zero, List.set_cons_zero, uPow, t2__law_curve, c, decide_true]
          exact ⟨divS (by omega) (by omega), fin.of q1⟩
        · simp only [trSs, trS, trE, trT, trX, pl, trA, trO, trC, trI, uBin_s, uUn_s, uVar_s, uC_s, getS, setS, uOp, uAdd, uSub, uMul, uDiv, uMod, uPow, uNeg, uCmp, uEqF, uLt, uLe, uGt, uGe, uIsF, isNonU, uTru, Blt.fn, uLen, uAbs, uMax2, uMin2, uInt, uIx, startU, gam_fn, gam_gl, tab_xcs, tab_sub, UD_nx, UD_rt, UD_bk, UD_ct, UD_ex, spAt, glAt, gls, seqOf, List.map_cons, List.map_nil, List.cons_append, List.nil_append, List.length_cons, List.length_nil, List.replicate, Nat.reduceAdd, Nat.reduceSub, Nat.zero_add, reduceIte, Bool.false_eq_true, Bool.true_eq_false, Bool.false_bne, Bool.true_bne, Bool.not_true, Bool.not_false, Bool.not_not, List.reverse_cons, List.reverse_nil, Option.map_some, Option.map_none, up_same, uTuple, uList, uSet, atI_zero, atI_one, ixN_20, ixN_zero, List.set_cons_zero, uPow, t2__law_curve, c, decide_false, t1__law_curve]
          refine ⟨divS (by omega) (by omega), fin.of ?_⟩
          have := floor_neg (r := (b.2 - a.2) * (k - a.1)) (w := b.1 - a.1) (by omega)
          rw [← this] at q1
          rw [Int.sub_eq_add_neg]
          exact q1
/-! ### _law_middle, _law_faded -/
def sp__law_middle : USp := fun us G Q _ => ∃ v : Int, us = [.int v] ∧ ∀ G', Le G G' → Q (.int (clipI v)) G'
def cl__law_middle : List (Str × USp) := []
theorem w__law_middle (us : List U) (G : UH) (Q : UK) (E : UXn → UH → Prop) (h : sp__law_middle us G Q E) : trSs (TB cl__law_middle) (GM cl__law_middle) b__law_middle (UD Q E) (startU n__law_middle us) G := by
  obtain ⟨v, rfl, q⟩ := h
  have lg := line_ge
  simp only [trSs, trS, trE, trT, trX, pl, trA, trO, trC, trI, uBin_s, uUn_s, uVar_s, uC_s, getS, setS, uOp, uAdd, uSub, uMul, uDiv, uMod, uPow, uNeg, uCmp, uEqF, uLt, uLe, uGt, uGe, uIsF, isNonU, uTru, Blt.fn, uLen, uAbs, uMax2, uMin2, uInt, uIx, startU, gam_fn, gam_gl, tab_xcs, tab_sub, UD_nx, UD_rt, UD_bk, UD_ct, UD_ex, spAt, glAt, gls, seqOf, List.map_cons, List.map_nil, List.cons_append, List.nil_append, List.length_cons, List.length_nil, List.replicate, Nat.reduceAdd, Nat.reduceSub, Nat.zero_add, reduceIte, Bool.false_eq_true, Bool.true_eq_false, Bool.false_bne, Bool.true_bne, Bool.not_true, Bool.not_false, Bool.not_not, List.reverse_cons, List.reverse_nil, Option.map_some, Option.map_none, up_same, uTuple, uList, uSet, atI_zero, atI_one, ixN_20, ixN_zero, List.set_cons_zero, uPow, b__law_middle, n__law_middle]
  refine ⟨by omega, fun p hp => ?_⟩
  refine sorted_of (ns := [-1048575, v, 1048575]) up_same fun ns' h1 h2 p2 hp2 => ?_
  obtain ⟨x, y, rfl⟩ := sort3 (by decide) h1 h2
  simp only [trSs, trS, trE, trT, trX, pl, trA, trO, trC, trI, uBin_s, uUn_s, uVar_s, uC_s, getS, setS, uOp, uAdd, uSub, uMul, uDiv, uMod, uPow, uNeg, uCmp, uEqF, uLt, uLe, uGt, uGe, uIsF, isNonU, uTru, Blt.fn, uLen, uAbs, uMax2, uMin2, uInt, uIx, startU, gam_fn, gam_gl, tab_xcs, tab_sub, UD_nx, UD_rt, UD_bk, UD_ct, UD_ex, spAt, glAt, gls, seqOf, List.map_cons, List.map_nil, List.cons_append, List.nil_append, List.length_cons, List.length_nil, List.replicate, Nat.reduceAdd, Nat.reduceSub, Nat.zero_add, reduceIte, Bool.false_eq_true, Bool.true_eq_false, Bool.false_bne, Bool.true_bne, Bool.not_true, Bool.not_false, Bool.not_not, List.reverse_cons, List.reverse_nil, Option.map_some, Option.map_none, up_same, uTuple, uList, uSet, atI_zero, atI_one, ixN_20, ixN_zero, List.set_cons_zero, uPow]
  exact fin.of (q _ ((Le.new hp).trans (.new hp2)))
def sp__law_faded : USp := fun us G Q _ => ∃ w m : Int, us = [.int w, .int m] ∧ -1048575 ≤ w ∧ w ≤ 1048575 ∧ ∀ G', Le G G' → Q (.int (clipI ((2 * (w * m) + 4096) / 8192))) G'
def cl__law_faded : List (Str × USp) := [("_law_middle", sp__law_middle)]
theorem w__law_faded (us : List U) (G : UH) (Q : UK) (E : UXn → UH → Prop) (h : sp__law_faded us G Q E) : trSs (TB cl__law_faded) (GM cl__law_faded) b__law_faded (UD Q E) (startU n__law_faded us) G := by
  obtain ⟨w, m, rfl, w1, w2, q⟩ := h
  simp only [trSs, trS, trE, trT, trX, pl, trA, trO, trC, trI, uBin_s, uUn_s, uVar_s, uC_s, getS, setS, uOp, uAdd, uSub, uMul, uDiv, uMod, uPow, uNeg, uCmp, uEqF, uLt, uLe, uGt, uGe, uIsF, isNonU, uTru, Blt.fn, uLen, uAbs, uMax2, uMin2, uInt, uIx, startU, gam_fn, gam_gl, tab_xcs, tab_sub, UD_nx, UD_rt, UD_bk, UD_ct, UD_ex, spAt, glAt, gls, seqOf, List.map_cons, List.map_nil, List.cons_append, List.nil_append, List.length_cons, List.length_nil, List.replicate, Nat.reduceAdd, Nat.reduceSub, Nat.zero_add, reduceIte, Bool.false_eq_true, Bool.true_eq_false, Bool.false_bne, Bool.true_bne, Bool.not_true, Bool.not_false, Bool.not_not, List.reverse_cons, List.reverse_nil, Option.map_some, Option.map_none, up_same, uTuple, uList, uSet, atI_zero, atI_one, ixN_20, ixN_zero, List.set_cons_zero, uPow, b__law_faded, n__law_faded, uDivmod, trG, trGs, lenG]
  refine ⟨mulL (by omega) (by omega), ⟨by decide, by decide⟩, trivial, trivial, ?_⟩
  by_cases c : 2048 ≤ w * m % 4096
  · simp only [trSs, trS, trE, trT, trX, pl, trA, trO, trC, trI, uBin_s, uUn_s, uVar_s, uC_s, getS, setS, uOp, uAdd, uSub, uMul, uDiv, uMod, uPow, uNeg, uCmp, uEqF, uLt, uLe, uGt, uGe, uIsF, isNonU, uTru, Blt.fn, uLen, uAbs, uMax2, uMin2, uInt, uIx, startU, gam_fn, gam_gl, tab_xcs, tab_sub, UD_nx, UD_rt, UD_bk, UD_ct, UD_ex, spAt, glAt, gls, seqOf, List.map_cons, List.map_nil, List.cons_append, List.nil_append, List.length_cons, List.length_nil, List.replicate, Nat.reduceAdd, Nat.reduceSub, Nat.zero_add, reduceIte, Bool.false_eq_true, Bool.true_eq_false, Bool.false_bne, Bool.true_bne, Bool.not_true, Bool.not_false, Bool.not_not, List.reverse_cons, List.reverse_nil, Option.map_some, Option.map_none, up_same, uTuple, uList, uSet, atI_zero, atI_one, ixN_20, ixN_zero, List.set_cons_zero, uPow, t2__law_faded, c, decide_true, trG, t1__law_faded, cl__law_faded]
    refine ⟨_, rfl, fun G' l => fin.of ?_⟩
    rw [show w * m / 4096 + 1 = (2 * (w * m) + 4096) / 8192 by omega]
    exact q G' l
  · simp only [trSs, trS, trE, trT, trX, pl, trA, trO, trC, trI, uBin_s, uUn_s, uVar_s, uC_s, getS, setS, uOp, uAdd, uSub, uMul, uDiv, uMod, uPow, uNeg, uCmp, uEqF, uLt, uLe, uGt, uGe, uIsF, isNonU, uTru, Blt.fn, uLen, uAbs, uMax2, uMin2, uInt, uIx, startU, gam_fn, gam_gl, tab_xcs, tab_sub, UD_nx, UD_rt, UD_bk, UD_ct, UD_ex, spAt, glAt, gls, seqOf, List.map_cons, List.map_nil, List.cons_append, List.nil_append, List.length_cons, List.length_nil, List.replicate, Nat.reduceAdd, Nat.reduceSub, Nat.zero_add, reduceIte, Bool.false_eq_true, Bool.true_eq_false, Bool.false_bne, Bool.true_bne, Bool.not_true, Bool.not_false, Bool.not_not, List.reverse_cons, List.reverse_nil, Option.map_some, Option.map_none, up_same, uTuple, uList, uSet, atI_zero, atI_one, ixN_20, ixN_zero, List.set_cons_zero, uPow, t2__law_faded, c, decide_false, t1__law_faded, cl__law_faded]
    refine ⟨_, rfl, fun G' l => fin.of ?_⟩
    rw [show w * m / 4096 = (2 * (w * m) + 4096) / 8192 by omega]
    exact q G' l
end K79
set_option Elab.async false
set_option linter.all false
set_option autoImplicit false
set_option maxRecDepth 100000
set_option maxHeartbeats 4000000
namespace K79
open PySem PySem.Spec L2 UL
/-! ### _law_mixed -/
def pB (k : Int) (q : Part) : Bool := decide (q.2 ≤ k) && decide (k < q.2 + (q.1.length : Int))
theorem mix_filt (k : Int) : ∀ ps : List Part, ((ps.filter (pB k)).map fun q => q.1.getD (k - q.2).toNat 0).sum = mixS ps k
  | [] => rfl
  | q :: ps => by
    have ih := mix_filt k ps
    rw [List.filter_cons, show mixS (q :: ps) k = conI q k + mixS ps k from by unfold mixS; rw [List.map_cons, List.sum_cons]]
    unfold conI
    by_cases c : q.2 ≤ k ∧ k < q.2 + (q.1.length : Int)
    · rw [if_pos (show pB k q = true by simp [pB, c]), if_pos c, List.map_cons, List.sum_cons, ih]
    · rw [if_neg (show ¬ pB k q = true by simp only [pB, Bool.and_eq_true, decide_eq_true_eq]; exact c), if_neg c, ih, Int.zero_add]
def mC (k : Int) : U → Bool
  | .tup [.tup ns, .int p] => decide (p ≤ k) && decide (k < p + (ns.length : Int))
  | _ => false
def mF (k : Int) : U → U
  | .tup [.tup ns, .int p] => (ns[(k - p).toNat]?).getD .non
  | _ => .non
theorem mC_part (k : Int) (q : Part) : mC k (partU q) = pB k q := by
  show (decide (q.2 ≤ k) && decide (k < q.2 + ((q.1.map U.int).length : Int))) = _
  rw [List.length_map]
  rfl
theorem mF_part {k : Int} {q : Part} (h : pB k q = true) : mF k (partU q) = .int (q.1.getD (k - q.2).toNat 0) := by
  simp only [pB, Bool.and_eq_true, decide_eq_true_eq] at h
  show ((q.1.map U.int)[(k - q.2).toNat]?).getD .non = _
  rw [List.getElem?_map, List.getElem?_eq_getElem (by omega), List.getD_eq_getElem?_getD, List.getElem?_eq_getElem (by omega)]
  rfl
theorem mix_list (k : Int) : ∀ ps : List Part, ((ps.map partU).filter (mC k)).map (mF k) = ((ps.filter (pB k)).map fun q => q.1.getD (k - q.2).toNat 0).map U.int
  | [] => rfl
  | q :: ps => by
    have ih := mix_list k ps
    rw [List.map_cons, List.filter_cons, List.filter_cons, mC_part]
    by_cases c : pB k q = true
    · rw [if_pos c, if_pos c, List.map_cons, List.map_cons, List.map_cons, ih, mF_part c]
    · rw [if_neg c, if_neg c, ih]
def sp__law_mixed : USp := fun us G Q _ => ∃ ps : List Part, us = [.tup (ps.map partU)] ∧ ps.length ≤ 1000 ∧ (∀ q ∈ ps, okPart q) ∧ ∀ G', Le G G' → Q (.tup ((mixL ps).map U.int)) G'
def cl__law_mixed : List (Str × USp) := [("_law_middle", sp__law_middle)]
theorem l1__law_mixed' {G : UH} {u0 : Option U} (D : UE) : ∀ (qs : List Part) (m : Int) (o2 o3 o4 o5 : Option U), (∀ o2, D.nx [u0, some (.int ((qs.map fun (q : Part) => q.2 + (q.1.length : Int)).foldl max m)), o2, o3, o4, o5] G) →
    forU [] (trG (.nm 2)) (trSs (TB cl__law_mixed) (GM cl__law_mixed) l1__law_mixed) D (qs.map partU) [u0, some (.int m), o2, o3, o4, o5] G
  | [], m, o2, o3, o4, o5, q => ⟨trivial, q _⟩
  | p :: qs, m, o2, o3, o4, o5, q => by
    have next := fun o2 => l1__law_mixed' D qs (max m (p.2 + (p.1.length : Int))) o2 o3 o4 o5 q
    refine ⟨trivial, ?_⟩
    show _
    generalize forU _ _ _ D (List.map partU qs) = T at next ⊢
    simp only [trSs, trS, trE, trT, trX, pl, trA, trO, trC, trI, uBin_s, uUn_s, uVar_s, uC_s, getS, setS, uOp, uAdd, uSub, uMul, uDiv, uMod, uPow, uNeg, uCmp, uEqF, uLt, uLe, uGt, uGe, uIsF, isNonU, uTru, Blt.fn, uLen, uAbs, uMax2, uMin2, uInt, uIx, startU, gam_fn, gam_gl, tab_xcs, tab_sub, UD_nx, UD_rt, UD_bk, UD_ct, UD_ex, spAt, glAt, gls, seqOf, List.map_cons, List.map_nil, List.cons_append, List.nil_append, List.length_cons, List.length_nil, List.replicate, Nat.reduceAdd, Nat.reduceSub, Nat.zero_add, reduceIte, Bool.false_eq_true, Bool.true_eq_false, Bool.false_bne, Bool.true_bne, Bool.not_true, Bool.not_false, Bool.not_not, List.reverse_cons, List.reverse_nil, Option.map_some, Option.map_none, up_same, uTuple, uList, uSet, atI_zero, atI_one, ixN_20, ixN_zero, List.set_cons_zero, uPow, trG, l1__law_mixed, partU, List.length_map]
    exact ⟨G, .refl G, next _⟩
theorem l2__law_mixed' {G0 : UH} {ra : Addr} {ps : List Part} {u1 : Option U} (h0 : G0 ra = none) (hl : ps.length ≤ 1000) (M : Nat) (hM : M ≤ 100000) (D : UE)
    (qn : ∀ o2 o4 o5 G, Le G0 G → G ra = some (.lst ((rw1 M fun j => clipI (mixS ps j)).map U.int)) → D.nx [some (.tup (ps.map partU)), u1, o2, some (.ref ra), o4, o5] G) :
    ∀ (n k : Nat) (o2 o4 o5 : Option U) (G : UH), k + n = M → Le G0 G → G ra = some (.lst ((rw1 k fun j => clipI (mixS ps j)).map U.int)) →
    forU [] (trG (.nm 4)) (trSs (TB cl__law_mixed) (GM cl__law_mixed) l2__law_mixed) D (List.map U.int (rangeI (k : Int) 1 n)) [some (.tup (ps.map partU)), u1, o2, some (.ref ra), o4, o5] G
  | 0, k, o2, o4, o5, G, e, l, h => ⟨trivial, qn _ _ _ G l (by rw [← e]; exact h)⟩
  | n + 1, k, o2, o4, o5, G, e, l, h => by
    have next : ∀ o2 o4 o5 G, Le G0 G → G ra = some (.lst ((rw1 (k + 1) fun j => clipI (mixS ps j)).map U.int)) → forU [] (trG (.nm 4)) (trSs (TB cl__law_mixed) (GM cl__law_mixed) l2__law_mixed) D (List.map U.int (rangeI ((k : Int) + 1) 1 n)) [some (.tup (ps.map partU)), u1, o2, some (.ref ra), o4, o5] G := fun o2 o4 o5 G l h => l2__law_mixed' h0 hl M hM D qn n (k + 1) o2 o4 o5 G (by omega) l h
    refine ⟨trivial, ?_⟩
    show _
    generalize forU _ _ _ D (List.map U.int (rangeI ((k : Int) + 1) 1 n)) = T at next ⊢
    have lg := line_ge
    simp only [trSs, trS, trE, trT, trX, pl, trA, trO, trC, trI, uBin_s, uUn_s, uVar_s, uC_s, getS, setS, uOp, uAdd, uSub, uMul, uDiv, uMod, uPow, uNeg, uCmp, uEqF, uLt, uLe, uGt, uGe, uIsF, isNonU, uTru, Blt.fn, uLen, uAbs, uMax2, uMin2, uInt, uIx, startU, gam_fn, gam_gl, tab_xcs, tab_sub, UD_nx, UD_rt, UD_bk, UD_ct, UD_ex, spAt, glAt, gls, seqOf, List.map_cons, List.map_nil, List.cons_append, List.nil_append, List.length_cons, List.length_nil, List.replicate, Nat.reduceAdd, Nat.reduceSub, Nat.zero_add, reduceIte, Bool.false_eq_true, Bool.true_eq_false, Bool.false_bne, Bool.true_bne, Bool.not_true, Bool.not_false, Bool.not_not, List.reverse_cons, List.reverse_nil, Option.map_some, Option.map_none, up_same, uTuple, uList, uSet, atI_zero, atI_one, ixN_20, ixN_zero, List.set_cons_zero, uPow, trG, l2__law_mixed]
    intro p hp
    refine lcU_pure (c := mC k) (f := mF k) (fun _ => depsNil) _ [] (by rw [List.length_map, List.length_nil]; omega) ?_ ?_
    · intro y hy acc K1 K0 k1 k0
      obtain ⟨q, hq, rfl⟩ := List.mem_map.mp hy
      rw [mC_part] at k1 k0
      by_cases c1 : q.2 ≤ (k : Int)
      · by_cases c2 : (k : Int) < q.2 + (q.1.length : Int)
        · have hB : pB k q = true := by simp [pB, c1, c2]
          rw [mF_part hB] at k1
          simp only [trSs, trS, trE, trT, trX, pl, trA, trO, trC, trI, uBin_s, uUn_s, uVar_s, uC_s, getS, setS, uOp, uAdd, uSub, uMul, uDiv, uMod, uPow, uNeg, uCmp, uEqF, uLt, uLe, uGt, uGe, uIsF, isNonU, uTru, Blt.fn, uLen, uAbs, uMax2, uMin2, uInt, uIx, startU, gam_fn, gam_gl, tab_xcs, tab_sub, UD_nx, UD_rt, UD_bk, UD_ct, UD_ex, spAt, glAt, gls, seqOf, List.map_cons, List.map_nil, List.cons_append, List.nil_append, List.length_cons, List.length_nil, List.replicate, Nat.reduceAdd, Nat.reduceSub, Nat.zero_add, reduceIte, Bool.false_eq_true, Bool.true_eq_false, Bool.false_bne, Bool.true_bne, Bool.not_true, Bool.not_false, Bool.not_not, List.reverse_cons, List.reverse_nil, Option.map_some, Option.map_none, up_same, uTuple, uList, uSet, atI_zero, atI_one, ixN_20, ixN_zero, List.set_cons_zero, uPow, slotsG, slotsGs, wipeU, trG, partU, c1, c2, decide_true, List.length_map, atI_int (show 0 ≤ (k : Int) - q.2 by omega) (show (k : Int) - q.2 < (q.1.length : Int) by omega)]
          exact k1 hB
        · have hB : pB k q = false := by simp [pB, c2]
          simp only [trSs, trS, trE, trT, trX, pl, trA, trO, trC, trI, uBin_s, uUn_s, uVar_s, uC_s, getS, setS, uOp, uAdd, uSub, uMul, uDiv, uMod, uPow, uNeg, uCmp, uEqF, uLt, uLe, uGt, uGe, uIsF, isNonU, uTru, Blt.fn, uLen, uAbs, uMax2, uMin2, uInt, uIx, startU, gam_fn, gam_gl, tab_xcs, tab_sub, UD_nx, UD_rt, UD_bk, UD_ct, UD_ex, spAt, glAt, gls, seqOf, List.map_cons, List.map_nil, List.cons_append, List.nil_append, List.length_cons, List.length_nil, List.replicate, Nat.reduceAdd, Nat.reduceSub, Nat.zero_add, reduceIte, Bool.false_eq_true, Bool.true_eq_false, Bool.false_bne, Bool.true_bne, Bool.not_true, Bool.not_false, Bool.not_not, List.reverse_cons, List.reverse_nil, Option.map_some, Option.map_none, up_same, uTuple, uList, uSet, atI_zero, atI_one, ixN_20, ixN_zero, List.set_cons_zero, uPow, slotsG, slotsGs, wipeU, trG, partU, c1, c2, decide_true, decide_false, List.length_map]
          exact k0 hB
      · have hB : pB k q = false := by simp [pB, c1]
        simp only [trSs, trS, trE, trT, trX, pl, trA, trO, trC, trI, uBin_s, uUn_s, uVar_s, uC_s, getS, setS, uOp, uAdd, uSub, uMul, uDiv, uMod, uPow, uNeg, uCmp, uEqF, uLt, uLe, uGt, uGe, uIsF, isNonU, uTru, Blt.fn, uLen, uAbs, uMax2, uMin2, uInt, uIx, startU, gam_fn, gam_gl, tab_xcs, tab_sub, UD_nx, UD_rt, UD_bk, UD_ct, UD_ex, spAt, glAt, gls, seqOf, List.map_cons, List.map_nil, List.cons_append, List.nil_append, List.length_cons, List.length_nil, List.replicate, Nat.reduceAdd, Nat.reduceSub, Nat.zero_add, reduceIte, Bool.false_eq_true, Bool.true_eq_false, Bool.false_bne, Bool.true_bne, Bool.not_true, Bool.not_false, Bool.not_not, List.reverse_cons, List.reverse_nil, Option.map_some, Option.map_none, up_same, uTuple, uList, uSet, atI_zero, atI_one, ixN_20, ixN_zero, List.set_cons_zero, uPow, slotsG, slotsGs, wipeU, trG, partU, c1, decide_true, decide_false, List.length_map]
        exact k0 hB
    · rw [List.nil_append, mix_list]
      have hne : ra ≠ p := fun z => by subst z; rw [hp] at h; cases h
      have l1 := l.trans (.new hp (o := .lst (((ps.filter (pB k)).map fun q => q.1.getD ((k : Int) - q.2).toNat 0).map U.int)))
      have h1 : UL.up G p (.lst (((ps.filter (pB k)).map fun q => q.1.getD ((k : Int) - q.2).toNat 0).map U.int)) ra = some (.lst ((rw1 k fun j => clipI (mixS ps j)).map U.int)) := by rw [up_ne hne]; exact h
      have h2 : UL.up G p (.lst (((ps.filter (pB k)).map fun q => q.1.getD ((k : Int) - q.2).toNat 0).map U.int)) p = some (.lst (((ps.filter (pB k)).map fun q => q.1.getD ((k : Int) - q.2).toNat 0).map U.int)) := up_same
      generalize UL.up G p _ = G1 at l1 h1 h2 ⊢
      simp only [trSs, trS, trE, trT, trX, pl, trA, trO, trC, trI, uBin_s, uUn_s, uVar_s, uC_s, getS, setS, uOp, uAdd, uSub, uMul, uDiv, uMod, uPow, uNeg, uCmp, uEqF, uLt, uLe, uGt, uGe, uIsF, isNonU, uTru, Blt.fn, uLen, uAbs, uMax2, uMin2, uInt, uIx, startU, gam_fn, gam_gl, tab_xcs, tab_sub, UD_nx, UD_rt, UD_bk, UD_ct, UD_ex, spAt, glAt, gls, seqOf, List.map_cons, List.map_nil, List.cons_append, List.nil_append, List.length_cons, List.length_nil, List.replicate, Nat.reduceAdd, Nat.reduceSub, Nat.zero_add, reduceIte, Bool.false_eq_true, Bool.true_eq_false, Bool.false_bne, Bool.true_bne, Bool.not_true, Bool.not_false, Bool.not_not, List.reverse_cons, List.reverse_nil, Option.map_some, Option.map_none, up_same, uTuple, uList, uSet, atI_zero, atI_one, ixN_20, ixN_zero, List.set_cons_zero, uPow, t1__law_mixed, cl__law_mixed, Mth.T, Mth.fn, mTy, uL, h1, uSum, uIntL, h2, intsOf_map, mix_filt]
      refine ⟨trivial, _, rfl, fun G2 l2 => ?_⟩
      simp only [trSs, trS, trE, trT, trX, pl, trA, trO, trC, trI, uBin_s, uUn_s, uVar_s, uC_s, getS, setS, uOp, uAdd, uSub, uMul, uDiv, uMod, uPow, uNeg, uCmp, uEqF, uLt, uLe, uGt, uGe, uIsF, isNonU, uTru, Blt.fn, uLen, uAbs, uMax2, uMin2, uInt, uIx, startU, gam_fn, gam_gl, tab_xcs, tab_sub, UD_nx, UD_rt, UD_bk, UD_ct, UD_ex, spAt, glAt, gls, seqOf, List.map_cons, List.map_nil, List.cons_append, List.nil_append, List.length_cons, List.length_nil, List.replicate, Nat.reduceAdd, Nat.reduceSub, Nat.zero_add, reduceIte, Bool.false_eq_true, Bool.true_eq_false, Bool.false_bne, Bool.true_bne, Bool.not_true, Bool.not_false, Bool.not_not, List.reverse_cons, List.reverse_nil, Option.map_some, Option.map_none, up_same, uTuple, uList, uSet, atI_zero, atI_one, ixN_20, ixN_zero, List.set_cons_zero, uPow, l2 _ _ h1, List.length_map, rangeI_len]
      refine ⟨by omega, _, .refl _, next _ _ _ _ (le_up h0 (l1.trans l2)) ?_⟩
      rw [up_same]
      congr 2
      unfold rw1
      rw [rangeI_last, List.map_append, List.map_append, show (0 : Int) + (k : Int) * 1 = k by omega]
      rfl
theorem w__law_mixed (us : List U) (G : UH) (Q : UK) (E : UXn → UH → Prop) (h : sp__law_mixed us G Q E) : trSs (TB cl__law_mixed) (GM cl__law_mixed) b__law_mixed (UD Q E) (startU n__law_mixed us) G := by
  obtain ⟨ps, rfl, hl, ho, q⟩ := h
  have lg := line_ge
  simp only [trSs, trS, trE, trT, trX, pl, trA, trO, trC, trI, uBin_s, uUn_s, uVar_s, uC_s, getS, setS, uOp, uAdd, uSub, uMul, uDiv, uMod, uPow, uNeg, uCmp, uEqF, uLt, uLe, uGt, uGe, uIsF, isNonU, uTru, Blt.fn, uLen, uAbs, uMax2, uMin2, uInt, uIx, startU, gam_fn, gam_gl, tab_xcs, tab_sub, UD_nx, UD_rt, UD_bk, UD_ct, UD_ex, spAt, glAt, gls, seqOf, List.map_cons, List.map_nil, List.cons_append, List.nil_append, List.length_cons, List.length_nil, List.replicate, Nat.reduceAdd, Nat.reduceSub, Nat.zero_add, reduceIte, Bool.false_eq_true, Bool.true_eq_false, Bool.false_bne, Bool.true_bne, Bool.not_true, Bool.not_false, Bool.not_not, List.reverse_cons, List.reverse_nil, Option.map_some, Option.map_none, up_same, uTuple, uList, uSet, atI_zero, atI_one, ixN_20, ixN_zero, List.set_cons_zero, uPow, b__law_mixed, n__law_mixed, trG]
  simp only [trSs, trS, trE, trT, trX, pl, trA, trO, trC, trI, uBin_s, uUn_s, uVar_s, uC_s, getS, setS, uOp, uAdd, uSub, uMul, uDiv, uMod, uPow, uNeg, uCmp, uEqF, uLt, uLe, uGt, uGe, uIsF, isNonU, uTru, Blt.fn, uLen, uAbs, uMax2, uMin2, uInt, uIx, startU, gam_fn, gam_gl, tab_xcs, tab_sub, UD_nx, UD_rt, UD_bk, UD_ct, UD_ex, spAt, glAt, gls, seqOf, List.map_cons, List.map_nil, List.cons_append, List.nil_append, List.length_cons, List.length_nil, List.replicate, Nat.reduceAdd, Nat.reduceSub, Nat.zero_add, reduceIte, Bool.false_eq_true, Bool.true_eq_false, Bool.false_bne, Bool.true_bne, Bool.not_true, Bool.not_false, Bool.not_not, List.reverse_cons, List.reverse_nil, Option.map_some, Option.map_none, up_same, uTuple, uList, uSet, atI_zero, atI_one, ixN_20, ixN_zero, List.set_cons_zero, uPow, t5__law_mixed]
  refine l1__law_mixed' _ ps 0 none none none none fun o2 => ?_
  have em : (ps.map fun (q : Part) => q.2 + (q.1.length : Int)).foldl max 0 = mostI ps := by
    unfold mostI
    cases ps with
    | nil => rfl
    | cons p ps =>
      have := (ho p List.mem_cons_self).2.1
      rw [List.map_cons, List.foldl_cons, show max 0 (p.2 + (p.1.length : Int)) = p.2 + (p.1.length : Int) by omega]
      rfl
  have m1 := most_le ho
  have m0 : 0 ≤ mostI ps := by
    cases ps with
    | nil => exact Int.le_refl _
    | cons p r => have := (ho p List.mem_cons_self).2.1; have := le_most (ps := p :: r) (q := p) List.mem_cons_self; omega
  rw [em]
  simp only [trSs, trS, trE, trT, trX, pl, trA, trO, trC, trI, uBin_s, uUn_s, uVar_s, uC_s, getS, setS, uOp, uAdd, uSub, uMul, uDiv, uMod, uPow, uNeg, uCmp, uEqF, uLt, uLe, uGt, uGe, uIsF, isNonU, uTru, Blt.fn, uLen, uAbs, uMax2, uMin2, uInt, uIx, startU, gam_fn, gam_gl, tab_xcs, tab_sub, UD_nx, UD_rt, UD_bk, UD_ct, UD_ex, spAt, glAt, gls, seqOf, List.map_cons, List.map_nil, List.cons_append, List.nil_append, List.length_cons, List.length_nil, List.replicate, Nat.reduceAdd, Nat.reduceSub, Nat.zero_add, reduceIte, Bool.false_eq_true, Bool.true_eq_false, Bool.false_bne, Bool.true_bne, Bool.not_true, Bool.not_false, Bool.not_not, List.reverse_cons, List.reverse_nil, Option.map_some, Option.map_none, up_same, uTuple, uList, uSet, atI_zero, atI_one, ixN_20, ixN_zero, List.set_cons_zero, uPow, t4__law_mixed, trG]
  refine ⟨by omega, fun ra hra => ?_⟩
  simp only [trSs, trS, trE, trT, trX, pl, trA, trO, trC, trI, uBin_s, uUn_s, uVar_s, uC_s, getS, setS, uOp, uAdd, uSub, uMul, uDiv, uMod, uPow, uNeg, uCmp, uEqF, uLt, uLe, uGt, uGe, uIsF, isNonU, uTru, Blt.fn, uLen, uAbs, uMax2, uMin2, uInt, uIx, startU, gam_fn, gam_gl, tab_xcs, tab_sub, UD_nx, UD_rt, UD_bk, UD_ct, UD_ex, spAt, glAt, gls, seqOf, List.map_cons, List.map_nil, List.cons_append, List.nil_append, List.length_cons, List.length_nil, List.replicate, Nat.reduceAdd, Nat.reduceSub, Nat.zero_add, reduceIte, Bool.false_eq_true, Bool.true_eq_false, Bool.false_bne, Bool.true_bne, Bool.not_true, Bool.not_false, Bool.not_not, List.reverse_cons, List.reverse_nil, Option.map_some, Option.map_none, up_same, uTuple, uList, uSet, atI_zero, atI_one, ixN_20, ixN_zero, List.set_cons_zero, uPow, t3__law_mixed]
  refine ⟨by unfold small62; omega, ?_⟩
  rw [rangeU_map]
  refine l2__law_mixed' (G0 := G) hra hl (mostI ps).toNat (by omega) _ (fun o2 o4 o5 G1 l1 h1 => ?_) _ 0 _ _ _ _ (by omega) (.new hra) up_same
  simp only [trSs, trS, trE, trT, trX, pl, trA, trO, trC, trI, uBin_s, uUn_s, uVar_s, uC_s, getS, setS, uOp, uAdd, uSub, uMul, uDiv, uMod, uPow, uNeg, uCmp, uEqF, uLt, uLe, uGt, uGe, uIsF, isNonU, uTru, Blt.fn, uLen, uAbs, uMax2, uMin2, uInt, uIx, startU, gam_fn, gam_gl, tab_xcs, tab_sub, UD_nx, UD_rt, UD_bk, UD_ct, UD_ex, spAt, glAt, gls, seqOf, List.map_cons, List.map_nil, List.cons_append, List.nil_append, List.length_cons, List.length_nil, List.replicate, Nat.reduceAdd, Nat.reduceSub, Nat.zero_add, reduceIte, Bool.false_eq_true, Bool.true_eq_false, Bool.false_bne, Bool.true_bne, Bool.not_true, Bool.not_false, Bool.not_not, List.reverse_cons, List.reverse_nil, Option.map_some, Option.map_none, up_same, uTuple, uList, uSet, atI_zero, atI_one, ixN_20, ixN_zero, List.set_cons_zero, uPow, t2__law_mixed, h1]
  exact fin.of (q G1 l1)
/-! ### _law_is_sound: the same -/
def sp__law_is_sound : USp := fun us G Q _ => ∃ ws, us = [.tup ws, .tup ws] ∧ ws.all isW = true ∧ Q (.bl true) G
def cl__law_is_sound : List (Str × USp) := []
theorem l__law_is_sound {G : UH} {t d : U} (D : UE) (qn : ∀ o o2, D.nx [some t, some d, o, o2] G) : ∀ (ws : List U) (o o2 : Option U), ws.all isW = true → 
    forU [] (trG (.tup (.cons (.nm 2) (.cons (.nm 3) .nil)))) (trSs (TB cl__law_is_sound) (GM cl__law_is_sound) l1__law_is_sound) D (zipU ws ws) [some t, some d, o, o2] G
  | [], o, o2, _ => ⟨trivial, qn o o2⟩
  | w :: ws, o, o2, h => by
    simp only [List.all_cons, Bool.and_eq_true] at h
    have next : ∀ o o2, forU [] (trG (.tup (.cons (.nm 2) (.cons (.nm 3) .nil)))) (trSs (TB cl__law_is_sound) (GM cl__law_is_sound) l1__law_is_sound) D (zipU ws ws) [some t, some d, o, o2] G := fun o o2 => l__law_is_sound D qn ws o o2 h.2
    refine ⟨trivial, ?_⟩
    generalize hT : forU _ _ _ D (zipU ws ws) = T at next
    cases w with
    | int i =>
      simp only [trSs, trS, trE, trT, trX, pl, trA, trO, trC, trI, uBin_s, uUn_s, uVar_s, uC_s, getS, setS, uOp, uAdd, uSub, uMul, uDiv, uMod, uPow, uNeg, uCmp, uEqF, uLt, uLe, uGt, uGe, uIsF, isNonU, uTru, Blt.fn, uLen, uAbs, uMax2, uMin2, uInt, uIx, startU, gam_fn, gam_gl, tab_xcs, tab_sub, UD_nx, UD_rt, UD_bk, UD_ct, UD_ex, spAt, glAt, gls, seqOf, List.map_cons, List.map_nil, List.cons_append, List.nil_append, List.length_cons, List.length_nil, List.replicate, Nat.reduceAdd, Nat.reduceSub, Nat.zero_add, reduceIte, Bool.false_eq_true, Bool.true_eq_false, Bool.false_bne, Bool.true_bne, Bool.not_true, Bool.not_false, Bool.not_not, List.reverse_cons, List.reverse_nil, Option.map_some, Option.map_none, up_same, uTuple, uList, uSet, atI_zero, atI_one, ixN_20, ixN_zero, List.set_cons_zero, uPow, trG, trGs, lenG, l1__law_is_sound]
      refine ⟨trivial, trivial, isi_int rfl ?_⟩
      simp only [trSs, trS, trE, trT, trX, pl, trA, trO, trC, trI, uBin_s, uUn_s, uVar_s, uC_s, getS, setS, uOp, uAdd, uSub, uMul, uDiv, uMod, uPow, uNeg, uCmp, uEqF, uLt, uLe, uGt, uGe, uIsF, isNonU, uTru, Blt.fn, uLen, uAbs, uMax2, uMin2, uInt, uIx, startU, gam_fn, gam_gl, tab_xcs, tab_sub, UD_nx, UD_rt, UD_bk, UD_ct, UD_ex, spAt, glAt, gls, seqOf, List.map_cons, List.map_nil, List.cons_append, List.nil_append, List.length_cons, List.length_nil, List.replicate, Nat.reduceAdd, Nat.reduceSub, Nat.zero_add, reduceIte, Bool.false_eq_true, Bool.true_eq_false, Bool.false_bne, Bool.true_bne, Bool.not_true, Bool.not_false, Bool.not_not, List.reverse_cons, List.reverse_nil, Option.map_some, Option.map_none, up_same, uTuple, uList, uSet, atI_zero, atI_one, ixN_20, ixN_zero, List.set_cons_zero, uPow, kI]
      refine isi_bool rfl ?_
      simp only [trSs, trS, trE, trT, trX, pl, trA, trO, trC, trI, uBin_s, uUn_s, uVar_s, uC_s, getS, setS, uOp, uAdd, uSub, uMul, uDiv, uMod, uPow, uNeg, uCmp, uEqF, uLt, uLe, uGt, uGe, uIsF, isNonU, uTru, Blt.fn, uLen, uAbs, uMax2, uMin2, uInt, uIx, startU, gam_fn, gam_gl, tab_xcs, tab_sub, UD_nx, UD_rt, UD_bk, UD_ct, UD_ex, spAt, glAt, gls, seqOf, List.map_cons, List.map_nil, List.cons_append, List.nil_append, List.length_cons, List.length_nil, List.replicate, Nat.reduceAdd, Nat.reduceSub, Nat.zero_add, reduceIte, Bool.false_eq_true, Bool.true_eq_false, Bool.false_bne, Bool.true_bne, Bool.not_true, Bool.not_false, Bool.not_not, List.reverse_cons, List.reverse_nil, Option.map_some, Option.map_none, up_same, uTuple, uList, uSet, atI_zero, atI_one, ixN_20, ixN_zero, List.set_cons_zero, uPow, kB, decide_true]
      exact ⟨G, .refl G, next _ _⟩
    | _ => cases h.1
theorem w__law_is_sound (us : List U) (G : UH) (Q : UK) (E : UXn → UH → Prop) (h : sp__law_is_sound us G Q E) : trSs (TB cl__law_is_sound) (GM cl__law_is_sound) b__law_is_sound (UD Q E) (startU n__law_is_sound us) G := by
  obtain ⟨ws, rfl, hw, q⟩ := h
  simp only [trSs, trS, trE, trT, trX, pl, trA, trO, trC, trI, uBin_s, uUn_s, uVar_s, uC_s, getS, setS, uOp, uAdd, uSub, uMul, uDiv, uMod, uPow, uNeg, uCmp, uEqF, uLt, uLe, uGt, uGe, uIsF, isNonU, uTru, Blt.fn, uLen, uAbs, uMax2, uMin2, uInt, uIx, startU, gam_fn, gam_gl, tab_xcs, tab_sub, UD_nx, UD_rt, UD_bk, UD_ct, UD_ex, spAt, glAt, gls, seqOf, List.map_cons, List.map_nil, List.cons_append, List.nil_append, List.length_cons, List.length_nil, List.replicate, Nat.reduceAdd, Nat.reduceSub, Nat.zero_add, reduceIte, Bool.false_eq_true, Bool.true_eq_false, Bool.false_bne, Bool.true_bne, Bool.not_true, Bool.not_false, Bool.not_not, List.reverse_cons, List.reverse_nil, Option.map_some, Option.map_none, up_same, uTuple, uList, uSet, atI_zero, atI_one, ixN_20, ixN_zero, List.set_cons_zero, uPow, b__law_is_sound, n__law_is_sound]
  refine isi_tuple rfl ?_
  simp only [trSs, trS, trE, trT, trX, pl, trA, trO, trC, trI, uBin_s, uUn_s, uVar_s, uC_s, getS, setS, uOp, uAdd, uSub, uMul, uDiv, uMod, uPow, uNeg, uCmp, uEqF, uLt, uLe, uGt, uGe, uIsF, isNonU, uTru, Blt.fn, uLen, uAbs, uMax2, uMin2, uInt, uIx, startU, gam_fn, gam_gl, tab_xcs, tab_sub, UD_nx, UD_rt, UD_bk, UD_ct, UD_ex, spAt, glAt, gls, seqOf, List.map_cons, List.map_nil, List.cons_append, List.nil_append, List.length_cons, List.length_nil, List.replicate, Nat.reduceAdd, Nat.reduceSub, Nat.zero_add, reduceIte, Bool.false_eq_true, Bool.true_eq_false, Bool.false_bne, Bool.true_bne, Bool.not_true, Bool.not_false, Bool.not_not, List.reverse_cons, List.reverse_nil, Option.map_some, Option.map_none, up_same, uTuple, uList, uSet, atI_zero, atI_one, ixN_20, ixN_zero, List.set_cons_zero, uPow, kT, decide_true]
  simp only [trSs, trS, trE, trT, trX, pl, trA, trO, trC, trI, uBin_s, uUn_s, uVar_s, uC_s, getS, setS, uOp, uAdd, uSub, uMul, uDiv, uMod, uPow, uNeg, uCmp, uEqF, uLt, uLe, uGt, uGe, uIsF, isNonU, uTru, Blt.fn, uLen, uAbs, uMax2, uMin2, uInt, uIx, startU, gam_fn, gam_gl, tab_xcs, tab_sub, UD_nx, UD_rt, UD_bk, UD_ct, UD_ex, spAt, glAt, gls, seqOf, List.map_cons, List.map_nil, List.cons_append, List.nil_append, List.length_cons, List.length_nil, List.replicate, Nat.reduceAdd, Nat.reduceSub, Nat.zero_add, reduceIte, Bool.false_eq_true, Bool.true_eq_false, Bool.false_bne, Bool.true_bne, Bool.not_true, Bool.not_false, Bool.not_not, List.reverse_cons, List.reverse_nil, Option.map_some, Option.map_none, up_same, uTuple, uList, uSet, atI_zero, atI_one, ixN_20, ixN_zero, List.set_cons_zero, uPow, t2__law_is_sound]
  refine l__law_is_sound _ (fun o o2 => ?_) ws none none hw
  simp only [trSs, trS, trE, trT, trX, pl, trA, trO, trC, trI, uBin_s, uUn_s, uVar_s, uC_s, getS, setS, uOp, uAdd, uSub, uMul, uDiv, uMod, uPow, uNeg, uCmp, uEqF, uLt, uLe, uGt, uGe, uIsF, isNonU, uTru, Blt.fn, uLen, uAbs, uMax2, uMin2, uInt, uIx, startU, gam_fn, gam_gl, tab_xcs, tab_sub, UD_nx, UD_rt, UD_bk, UD_ct, UD_ex, spAt, glAt, gls, seqOf, List.map_cons, List.map_nil, List.cons_append, List.nil_append, List.length_cons, List.length_nil, List.replicate, Nat.reduceAdd, Nat.reduceSub, Nat.zero_add, reduceIte, Bool.false_eq_true, Bool.true_eq_false, Bool.false_bne, Bool.true_bne, Bool.not_true, Bool.not_false, Bool.not_not, List.reverse_cons, List.reverse_nil, Option.map_some, Option.map_none, up_same, uTuple, uList, uSet, atI_zero, atI_one, ixN_20, ixN_zero, List.set_cons_zero, uPow, t1__law_is_sound]
  exact fin.of q
/-! ### deeds -/
inductive Deed
  | cut (ns : List Int) (lo hi : Int) | joined (nss : List (List Int)) | mixed (ps : List Part) | faded (ns : List Int) (ps : List (Int × Int)) | back (ns : List Int)
abbrev sndU (ns : List Int) : U := .tup (ns.map U.int)
def Deed.u : Deed → U
  | .cut ns lo hi => .tup [.str "cut", sndU ns, .int lo, .int hi]
  | .joined nss => .tup [.str "joined", .tup (nss.map sndU)]
  | .mixed ps => .tup [.str "mixed", .tup (ps.map partU)]
  | .faded ns ps => .tup [.str "faded", sndU ns, .tup (ps.map ptU)]
  | .back ns => .tup [.str "back", sndU ns]
def Deed.ok : Deed → Prop
  | .cut ns lo hi => Wd1 ns ∧ ns.length ≤ 90 ∧ 0 ≤ lo ∧ lo ≤ hi ∧ hi ≤ ns.length
  | .joined nss => (∀ ns ∈ nss, Wd1 ns ∧ ns.length ≤ 90) ∧ nss.length ≤ 10
  | .mixed ps => (∀ q ∈ ps, okPart q ∧ q.2 ≤ 4000 ∧ q.1.length ≤ 90) ∧ ps.length ≤ 10
  | .faded ns ps => Wd1 ns ∧ ns.length ≤ 90 ∧ ps ≠ [] ∧ ps.length ≤ 64 ∧ okP ps
  | .back ns => Wd1 ns ∧ ns.length ≤ 90
def Deed.due : Deed → List Int
  | .cut ns lo hi => (ns.drop lo.toNat).take (hi - lo).toNat
  | .joined nss => nss.flatten
  | .mixed ps => mixL ps
  | .faded ns ps => fadI ps 0 ns
  | .back ns => ns.reverse
def sp__law_due : USp := fun us G Q _ => ∃ d : Deed, us = [d.u] ∧ d.ok ∧ ∀ G', Le G G' → Q (sndU d.due) G'
def cl__law_due : List (Str × USp) := [("_law_mixed", sp__law_mixed), ("_law_faded", sp__law_faded), ("_law_curve", sp__law_curve)]
def cC (lo hi : Int) : U → Bool
  | .tup [.int i, _] => decide (lo ≤ i) && decide (i < hi)
  | _ => false
def cF : U → U
  | .tup [_, u] => u
  | u => u
theorem cut_enum (lo hi : Nat) : ∀ (us : List U) (i : Nat), ((enumU i us).filter (cC lo hi)).map cF = (us.drop (lo - i)).take (hi - max lo i)
  | [], _ => by simp [enumU]
  | u :: us, i => by
    have ih := cut_enum lo hi us (i + 1)
    rw [enumU, List.filter_cons]
    by_cases c1 : i < lo
    · rw [if_neg (show ¬ cC lo hi (.tup [.int (i : Int), u]) = true by simp [cC]; omega), ih, show lo - i = (lo - (i + 1)) + 1 by omega, List.drop_succ_cons]
      congr 1
      omega
    · rw [show lo - i = 0 by omega, List.drop_zero]
      rw [show lo - (i + 1) = 0 by omega, List.drop_zero] at ih
      by_cases c2 : i < hi
      · rw [if_pos (show cC lo hi (.tup [.int (i : Int), u]) = true by simp [cC]; omega), List.map_cons, ih, show hi - max lo i = (hi - max lo (i + 1)) + 1 by omega, List.take_succ_cons]
        rfl
      · rw [if_neg (show ¬ cC lo hi (.tup [.int (i : Int), u]) = true by simp [cC]; omega), ih, show hi - max lo (i + 1) = 0 by omega, show hi - max lo i = 0 by omega, List.take_zero, List.take_zero]
theorem enum_mem : ∀ (us : List U) (i : Nat) (y : U), y ∈ enumU i us → ∃ (j : Nat) (u : U), y = .tup [.int (j : Int), u] ∧ u ∈ us
  | [], _, y, h => by cases h
  | u :: us, i, y, h => by
    rw [enumU, List.mem_cons] at h
    rcases h with h | h
    · exact ⟨i, u, h, List.mem_cons_self⟩
    · obtain ⟨j, w, h1, h2⟩ := enum_mem us (i + 1) y h
      exact ⟨j, w, h1, List.mem_cons_of_mem _ h2⟩
/-- row.append(x) for all x -/
theorem l1__law_due' {G0 : UH} {ra : Addr} {u0 u1 u4 : Option U} (h0 : G0 ra = none) (D : UE) :
    ∀ (us acc : List U) (o2 : Option U) (G : UH), acc.length + us.length ≤ 16000000 → Le G0 G → G ra = some (.lst acc) →
    (∀ o2 G, Le G0 G → G ra = some (.lst (acc ++ us)) → D.nx [u0, u1, o2, some (.ref ra), u4] G) →
    forU [] (trG (.nm 2)) (trSs (TB cl__law_due) (GM cl__law_due) l1__law_due) D us [u0, u1, o2, some (.ref ra), u4] G
  | [], acc, o2, G, hl, l, h, qn => ⟨trivial, qn _ G l (by rw [List.append_nil]; exact h)⟩
  | u :: us, acc, o2, G, hl, l, h, qn => by
    simp only [List.length_cons] at hl
    have next : ∀ o2 G, Le G0 G → G ra = some (.lst (acc ++ [u])) → forU [] (trG (.nm 2)) (trSs (TB cl__law_due) (GM cl__law_due) l1__law_due) D us [u0, u1, o2, some (.ref ra), u4] G := fun o2 G l h => l1__law_due' h0 D us (acc ++ [u]) o2 G (by simp; omega) l h fun o2 G l h => qn o2 G l (by rw [h]; simp)
    refine ⟨trivial, ?_⟩
    show _
    generalize forU _ _ _ D us = T at next ⊢
    have lg := line_ge
    simp only [trSs, trS, trE, trT, trX, pl, trA, trO, trC, trI, uBin_s, uUn_s, uVar_s, uC_s, getS, setS, uOp, uAdd, uSub, uMul, uDiv, uMod, uPow, uNeg, uCmp, uEqF, uLt, uLe, uGt, uGe, uIsF, isNonU, uTru, Blt.fn, uLen, uAbs, uMax2, uMin2, uInt, uIx, startU, gam_fn, gam_gl, tab_xcs, tab_sub, UD_nx, UD_rt, UD_bk, UD_ct, UD_ex, spAt, glAt, gls, seqOf, List.map_cons, List.map_nil, List.cons_append, List.nil_append, List.length_cons, List.length_nil, List.replicate, Nat.reduceAdd, Nat.reduceSub, Nat.zero_add, reduceIte, Bool.false_eq_true, Bool.true_eq_false, Bool.false_bne, Bool.true_bne, Bool.not_true, Bool.not_false, Bool.not_not, List.reverse_cons, List.reverse_nil, Option.map_some, Option.map_none, up_same, uTuple, uList, uSet, atI_zero, atI_one, ixN_20, ixN_zero, List.set_cons_zero, uPow, trG, l1__law_due, Mth.T, Mth.fn, mTy, uL, h]
    exact ⟨trivial, by omega, _, .refl _, next _ _ (le_up h0 l) up_same⟩
theorem l2__law_due' {G0 : UH} {ra : Addr} {u0 u1 : Option U} (h0 : G0 ra = none) (D : UE) :
    ∀ (nss : List (List Int)) (acc : List U) (o2 o4 : Option U) (G : UH), (∀ ns ∈ nss, ns.length ≤ 90) → acc.length + 90 * nss.length ≤ 16000000 → Le G0 G → G ra = some (.lst acc) →
    (∀ o2 o4 G, Le G0 G → G ra = some (.lst (acc ++ nss.flatten.map U.int)) → D.nx [u0, u1, o2, some (.ref ra), o4] G) →
    forU [] (trG (.nm 4)) (trSs (TB cl__law_due) (GM cl__law_due) l2__law_due) D (nss.map sndU) [u0, u1, o2, some (.ref ra), o4] G
  | [], acc, o2, o4, G, hb, hl, l, h, qn => ⟨trivial, qn _ _ G l (by simpa using h)⟩
  | ns :: nss, acc, o2, o4, G, hb, hl, l, h, qn => by
    simp only [List.length_cons] at hl
    have hb1 := hb ns List.mem_cons_self
    have next : ∀ o2 o4 G, Le G0 G → G ra = some (.lst (acc ++ ns.map U.int)) → forU [] (trG (.nm 4)) (trSs (TB cl__law_due) (GM cl__law_due) l2__law_due) D (nss.map sndU) [u0, u1, o2, some (.ref ra), o4] G := fun o2 o4 G l h => l2__law_due' h0 D nss (acc ++ ns.map U.int) o2 o4 G (fun x hx => hb x (List.mem_cons_of_mem _ hx)) (by rw [List.length_append, List.length_map]; omega) l h fun o2 o4 G l h => qn o2 o4 G l (by rw [h]; simp)
    refine ⟨trivial, ?_⟩
    show _
    generalize forU _ _ _ D (List.map sndU nss) = T at next ⊢
    simp only [trSs, trS, trE, trT, trX, pl, trA, trO, trC, trI, uBin_s, uUn_s, uVar_s, uC_s, getS, setS, uOp, uAdd, uSub, uMul, uDiv, uMod, uPow, uNeg, uCmp, uEqF, uLt, uLe, uGt, uGe, uIsF, isNonU, uTru, Blt.fn, uLen, uAbs, uMax2, uMin2, uInt, uIx, startU, gam_fn, gam_gl, tab_xcs, tab_sub, UD_nx, UD_rt, UD_bk, UD_ct, UD_ex, spAt, glAt, gls, seqOf, List.map_cons, List.map_nil, List.cons_append, List.nil_append, List.length_cons, List.length_nil, List.replicate, Nat.reduceAdd, Nat.reduceSub, Nat.zero_add, reduceIte, Bool.false_eq_true, Bool.true_eq_false, Bool.false_bne, Bool.true_bne, Bool.not_true, Bool.not_false, Bool.not_not, List.reverse_cons, List.reverse_nil, Option.map_some, Option.map_none, up_same, uTuple, uList, uSet, atI_zero, atI_one, ixN_20, ixN_zero, List.set_cons_zero, uPow, trG, l2__law_due]
    refine l1__law_due' h0 _ (ns.map U.int) acc _ G (by rw [List.length_map]; omega) l h fun o2 G1 l1 h1 => ?_
    simp only [trSs, trS, trE, trT, trX, pl, trA, trO, trC, trI, uBin_s, uUn_s, uVar_s, uC_s, getS, setS, uOp, uAdd, uSub, uMul, uDiv, uMod, uPow, uNeg, uCmp, uEqF, uLt, uLe, uGt, uGe, uIsF, isNonU, uTru, Blt.fn, uLen, uAbs, uMax2, uMin2, uInt, uIx, startU, gam_fn, gam_gl, tab_xcs, tab_sub, UD_nx, UD_rt, UD_bk, UD_ct, UD_ex, spAt, glAt, gls, seqOf, List.map_cons, List.map_nil, List.cons_append, List.nil_append, List.length_cons, List.length_nil, List.replicate, Nat.reduceAdd, Nat.reduceSub, Nat.zero_add, reduceIte, Bool.false_eq_true, Bool.true_eq_false, Bool.false_bne, Bool.true_bne, Bool.not_true, Bool.not_false, Bool.not_not, List.reverse_cons, List.reverse_nil, Option.map_some, Option.map_none, up_same, uTuple, uList, uSet, atI_zero, atI_one, ixN_20, ixN_zero, List.set_cons_zero, uPow]
    exact ⟨_, .refl _, next _ _ _ l1 h1⟩
/-- row.insert(0, x) for all x -/
theorem l3__law_due' {G0 : UH} {ra : Addr} {u0 u1 u4 : Option U} (h0 : G0 ra = none) (D : UE) :
    ∀ (us acc : List U) (o2 : Option U) (G : UH), acc.length + us.length ≤ 16000000 → Le G0 G → G ra = some (.lst acc) →
    (∀ o2 G, Le G0 G → G ra = some (.lst (us.reverse ++ acc)) → D.nx [u0, u1, o2, some (.ref ra), u4] G) →
    forU [] (trG (.nm 2)) (trSs (TB cl__law_due) (GM cl__law_due) l3__law_due) D us [u0, u1, o2, some (.ref ra), u4] G
  | [], acc, o2, G, hl, l, h, qn => ⟨trivial, qn _ G l h⟩
  | u :: us, acc, o2, G, hl, l, h, qn => by
    simp only [List.length_cons] at hl
    have next : ∀ o2 G, Le G0 G → G ra = some (.lst (u :: acc)) → forU [] (trG (.nm 2)) (trSs (TB cl__law_due) (GM cl__law_due) l3__law_due) D us [u0, u1, o2, some (.ref ra), u4] G := fun o2 G l h => l3__law_due' h0 D us (u :: acc) o2 G (by simp; omega) l h fun o2 G l h => qn o2 G l (by rw [h]; simp)
    refine ⟨trivial, ?_⟩
    show _
    generalize forU _ _ _ D us = T at next ⊢
    have lg := line_ge
    simp only [trSs, trS, trE, trT, trX, pl, trA, trO, trC, trI, uBin_s, uUn_s, uVar_s, uC_s, getS, setS, uOp, uAdd, uSub, uMul, uDiv, uMod, uPow, uNeg, uCmp, uEqF, uLt, uLe, uGt, uGe, uIsF, isNonU, uTru, Blt.fn, uLen, uAbs, uMax2, uMin2, uInt, uIx, startU, gam_fn, gam_gl, tab_xcs, tab_sub, UD_nx, UD_rt, UD_bk, UD_ct, UD_ex, spAt, glAt, gls, seqOf, List.map_cons, List.map_nil, List.cons_append, List.nil_append, List.length_cons, List.length_nil, List.replicate, Nat.reduceAdd, Nat.reduceSub, Nat.zero_add, reduceIte, Bool.false_eq_true, Bool.true_eq_false, Bool.false_bne, Bool.true_bne, Bool.not_true, Bool.not_false, Bool.not_not, List.reverse_cons, List.reverse_nil, Option.map_some, Option.map_none, up_same, uTuple, uList, uSet, atI_zero, atI_one, ixN_20, ixN_zero, List.set_cons_zero, uPow, trG, l3__law_due, Mth.T, Mth.fn, mTy, uL, h]
    exact ⟨trivial, by omega, by decide, by decide, _, .refl _, next _ _ (le_up h0 l) up_same⟩
end K79
set_option Elab.async false
set_option linter.all false
set_option autoImplicit false
set_option maxRecDepth 100000
set_option maxHeartbeats 4000000
namespace K79
open PySem PySem.Spec L2 UL
theorem s1 : decide (("joined" : Str) = "cut") = false := by decide +kernel
theorem s2 : decide (("mixed" : Str) = "cut") = false := by decide +kernel
theorem s3 : decide (("faded" : Str) = "cut") = false := by decide +kernel
theorem s4 : decide (("back" : Str) = "cut") = false := by decide +kernel
theorem s5 : decide (("mixed" : Str) = "joined") = false := by decide +kernel
theorem s6 : decide (("faded" : Str) = "joined") = false := by decide +kernel
theorem s7 : decide (("back" : Str) = "joined") = false := by decide +kernel
theorem s8 : decide (("faded" : Str) = "mixed") = false := by decide +kernel
theorem s9 : decide (("back" : Str) = "mixed") = false := by decide +kernel
theorem s10 : decide (("back" : Str) = "faded") = false := by decide +kernel
theorem fad_enum (ps : List (Int × Int)) : ∀ (ns : List Int) (i : Nat), (enumU i (ns.map U.int)).map (fun y => U.int (clipI ((2 * intV (mulF ps y) + 4096) / 8192))) = (fadI ps i ns).map U.int
  | [], _ => rfl
  | x :: ns, i => by
    rw [List.map_cons, enumU, List.map_cons, fad_enum ps ns, fadI, List.map_cons]
    rfl
theorem i2 (a b c : U) (r : List U) : atI (a :: b :: c :: r) 2 = some c := atI_nat (by decide) rfl
theorem i3 (a b c d : U) (r : List U) : atI (a :: b :: c :: d :: r) 3 = some d := atI_nat (by decide) rfl
theorem w__law_due (us : List U) (G : UH) (Q : UK) (E : UXn → UH → Prop) (h : sp__law_due us G Q E) : trSs (TB cl__law_due) (GM cl__law_due) b__law_due (UD Q E) (startU n__law_due us) G := by
  obtain ⟨d, rfl, ho, q⟩ := h
  have lg := line_ge
  cases d with
  | cut ns lo hi =>
    obtain ⟨h1, h2, h3, h4, h5⟩ := ho
    simp only [trSs, trS, trE, trT, trX, pl, trA, trO, trC, trI, uBin_s, uUn_s, uVar_s, uC_s, getS, setS, uOp, uAdd, uSub, uMul, uDiv, uMod, uPow, uNeg, uCmp, uEqF, uLt, uLe, uGt, uGe, uIsF, isNonU, uTru, Blt.fn, uLen, uAbs, uMax2, uMin2, uInt, uIx, startU, gam_fn, gam_gl, tab_xcs, tab_sub, UD_nx, UD_rt, UD_bk, UD_ct, UD_ex, spAt, glAt, gls, seqOf, List.map_cons, List.map_nil, List.cons_append, List.nil_append, List.length_cons, List.length_nil, List.replicate, Nat.reduceAdd, Nat.reduceSub, Nat.zero_add, reduceIte, Bool.false_eq_true, Bool.true_eq_false, Bool.false_bne, Bool.true_bne, Bool.not_true, Bool.not_false, Bool.not_not, List.reverse_cons, List.reverse_nil, Option.map_some, Option.map_none, up_same, uTuple, uList, uSet, atI_zero, atI_one, ixN_20, ixN_zero, List.set_cons_zero, uPow, b__law_due, n__law_due, Deed.u, decide_true, sndU]
    intro p hp
    refine lcU_pure (c := cC lo hi) (f := cF) (fun _ => depsNil) _ [] (by rw [enum_len, List.length_map, List.length_nil]; omega) ?_ ?_
    · intro y hy acc K1 K0 k1 k0
      obtain ⟨j, u, rfl, _⟩ := enum_mem _ _ _ hy
      simp only [trSs, trS, trE, trT, trX, pl, trA, trO, trC, trI, uBin_s, uUn_s, uVar_s, uC_s, getS, setS, uOp, uAdd, uSub, uMul, uDiv, uMod, uPow, uNeg, uCmp, uEqF, uLt, uLe, uGt, uGe, uIsF, isNonU, uTru, Blt.fn, uLen, uAbs, uMax2, uMin2, uInt, uIx, startU, gam_fn, gam_gl, tab_xcs, tab_sub, UD_nx, UD_rt, UD_bk, UD_ct, UD_ex, spAt, glAt, gls, seqOf, List.map_cons, List.map_nil, List.cons_append, List.nil_append, List.length_cons, List.length_nil, List.replicate, Nat.reduceAdd, Nat.reduceSub, Nat.zero_add, reduceIte, Bool.false_eq_true, Bool.true_eq_false, Bool.false_bne, Bool.true_bne, Bool.not_true, Bool.not_false, Bool.not_not, List.reverse_cons, List.reverse_nil, Option.map_some, Option.map_none, up_same, uTuple, uList, uSet, atI_zero, atI_one, ixN_20, ixN_zero, List.set_cons_zero, uPow, slotsG, slotsGs, wipeU, trG, trGs, lenG, i2, i3]
      refine ⟨trivial, trivial, ?_⟩
      by_cases c1 : lo ≤ (j : Int)
      · by_cases c2 : (j : Int) < hi
        · simp only [trSs, trS, trE, trT, trX, pl, trA, trO, trC, trI, uBin_s, uUn_s, uVar_s, uC_s, getS, setS, uOp, uAdd, uSub, uMul, uDiv, uMod, uPow, uNeg, uCmp, uEqF, uLt, uLe, uGt, uGe, uIsF, isNonU, uTru, Blt.fn, uLen, uAbs, uMax2, uMin2, uInt, uIx, startU, gam_fn, gam_gl, tab_xcs, tab_sub, UD_nx, UD_rt, UD_bk, UD_ct, UD_ex, spAt, glAt, gls, seqOf, List.map_cons, List.map_nil, List.cons_append, List.nil_append, List.length_cons, List.length_nil, List.replicate, Nat.reduceAdd, Nat.reduceSub, Nat.zero_add, reduceIte, Bool.false_eq_true, Bool.true_eq_false, Bool.false_bne, Bool.true_bne, Bool.not_true, Bool.not_false, Bool.not_not, List.reverse_cons, List.reverse_nil, Option.map_some, Option.map_none, up_same, uTuple, uList, uSet, atI_zero, atI_one, ixN_20, ixN_zero, List.set_cons_zero, uPow, c1, c2, decide_true]
          exact k1 (by simp [cC, c1, c2])
        · simp only [trSs, trS, trE, trT, trX, pl, trA, trO, trC, trI, uBin_s, uUn_s, uVar_s, uC_s, getS, setS, uOp, uAdd, uSub, uMul, uDiv, uMod, uPow, uNeg, uCmp, uEqF, uLt, uLe, uGt, uGe, uIsF, isNonU, uTru, Blt.fn, uLen, uAbs, uMax2, uMin2, uInt, uIx, startU, gam_fn, gam_gl, tab_xcs, tab_sub, UD_nx, UD_rt, UD_bk, UD_ct, UD_ex, spAt, glAt, gls, seqOf, List.map_cons, List.map_nil, List.cons_append, List.nil_append, List.length_cons, List.length_nil, List.replicate, Nat.reduceAdd, Nat.reduceSub, Nat.zero_add, reduceIte, Bool.false_eq_true, Bool.true_eq_false, Bool.false_bne, Bool.true_bne, Bool.not_true, Bool.not_false, Bool.not_not, List.reverse_cons, List.reverse_nil, Option.map_some, Option.map_none, up_same, uTuple, uList, uSet, atI_zero, atI_one, ixN_20, ixN_zero, List.set_cons_zero, uPow, c1, c2, decide_true, decide_false]
          exact k0 (by simp [cC, c2])
      · simp only [trSs, trS, trE, trT, trX, pl, trA, trO, trC, trI, uBin_s, uUn_s, uVar_s, uC_s, getS, setS, uOp, uAdd, uSub, uMul, uDiv, uMod, uPow, uNeg, uCmp, uEqF, uLt, uLe, uGt, uGe, uIsF, isNonU, uTru, Blt.fn, uLen, uAbs, uMax2, uMin2, uInt, uIx, startU, gam_fn, gam_gl, tab_xcs, tab_sub, UD_nx, UD_rt, UD_bk, UD_ct, UD_ex, spAt, glAt, gls, seqOf, List.map_cons, List.map_nil, List.cons_append, List.nil_append, List.length_cons, List.length_nil, List.replicate, Nat.reduceAdd, Nat.reduceSub, Nat.zero_add, reduceIte, Bool.false_eq_true, Bool.true_eq_false, Bool.false_bne, Bool.true_bne, Bool.not_true, Bool.not_false, Bool.not_not, List.reverse_cons, List.reverse_nil, Option.map_some, Option.map_none, up_same, uTuple, uList, uSet, atI_zero, atI_one, ixN_20, ixN_zero, List.set_cons_zero, uPow, c1, decide_true, decide_false]
        exact k0 (by simp [cC, c1])
    · obtain ⟨lo, rfl⟩ := Int.eq_ofNat_of_zero_le h3
      obtain ⟨hi, rfl⟩ := Int.eq_ofNat_of_zero_le (show 0 ≤ hi by omega)
      rw [List.nil_append, cut_enum lo hi]
      simp only [trSs, trS, trE, trT, trX, pl, trA, trO, trC, trI, uBin_s, uUn_s, uVar_s, uC_s, getS, setS, uOp, uAdd, uSub, uMul, uDiv, uMod, uPow, uNeg, uCmp, uEqF, uLt, uLe, uGt, uGe, uIsF, isNonU, uTru, Blt.fn, uLen, uAbs, uMax2, uMin2, uInt, uIx, startU, gam_fn, gam_gl, tab_xcs, tab_sub, UD_nx, UD_rt, UD_bk, UD_ct, UD_ex, spAt, glAt, gls, seqOf, List.map_cons, List.map_nil, List.cons_append, List.nil_append, List.length_cons, List.length_nil, List.replicate, Nat.reduceAdd, Nat.reduceSub, Nat.zero_add, reduceIte, Bool.false_eq_true, Bool.true_eq_false, Bool.false_bne, Bool.true_bne, Bool.not_true, Bool.not_false, Bool.not_not, List.reverse_cons, List.reverse_nil, Option.map_some, Option.map_none, up_same, uTuple, uList, uSet, atI_zero, atI_one, ixN_20, ixN_zero, List.set_cons_zero, uPow]
      have e : List.take (hi - max lo 0) (List.drop (lo - 0) (List.map U.int ns)) = ((Deed.cut ns lo hi).due).map U.int := by
        show _ = ((ns.drop (lo : Int).toNat).take ((hi : Int) - (lo : Int)).toNat).map U.int
        rw [← List.map_drop, ← List.map_take, show max lo 0 = lo by omega, show lo - 0 = lo from rfl, show ((lo : Int)).toNat = lo from rfl, show ((hi : Int) - (lo : Int)).toNat = hi - lo by omega]
      rw [e]
      exact fin.of (q _ (.new hp))
  | joined nss =>
    obtain ⟨h1, h2⟩ := ho
    simp only [trSs, trS, trE, trT, trX, pl, trA, trO, trC, trI, uBin_s, uUn_s, uVar_s, uC_s, getS, setS, uOp, uAdd, uSub, uMul, uDiv, uMod, uPow, uNeg, uCmp, uEqF, uLt, uLe, uGt, uGe, uIsF, isNonU, uTru, Blt.fn, uLen, uAbs, uMax2, uMin2, uInt, uIx, startU, gam_fn, gam_gl, tab_xcs, tab_sub, UD_nx, UD_rt, UD_bk, UD_ct, UD_ex, spAt, glAt, gls, seqOf, List.map_cons, List.map_nil, List.cons_append, List.nil_append, List.length_cons, List.length_nil, List.replicate, Nat.reduceAdd, Nat.reduceSub, Nat.zero_add, reduceIte, Bool.false_eq_true, Bool.true_eq_false, Bool.false_bne, Bool.true_bne, Bool.not_true, Bool.not_false, Bool.not_not, List.reverse_cons, List.reverse_nil, Option.map_some, Option.map_none, up_same, uTuple, uList, uSet, atI_zero, atI_one, ixN_20, ixN_zero, List.set_cons_zero, uPow, b__law_due, n__law_due, Deed.u, s1, t8__law_due, decide_true, trG]
    refine ⟨by omega, fun ra hra => ?_⟩
    simp only [trSs, trS, trE, trT, trX, pl, trA, trO, trC, trI, uBin_s, uUn_s, uVar_s, uC_s, getS, setS, uOp, uAdd, uSub, uMul, uDiv, uMod, uPow, uNeg, uCmp, uEqF, uLt, uLe, uGt, uGe, uIsF, isNonU, uTru, Blt.fn, uLen, uAbs, uMax2, uMin2, uInt, uIx, startU, gam_fn, gam_gl, tab_xcs, tab_sub, UD_nx, UD_rt, UD_bk, UD_ct, UD_ex, spAt, glAt, gls, seqOf, List.map_cons, List.map_nil, List.cons_append, List.nil_append, List.length_cons, List.length_nil, List.replicate, Nat.reduceAdd, Nat.reduceSub, Nat.zero_add, reduceIte, Bool.false_eq_true, Bool.true_eq_false, Bool.false_bne, Bool.true_bne, Bool.not_true, Bool.not_false, Bool.not_not, List.reverse_cons, List.reverse_nil, Option.map_some, Option.map_none, up_same, uTuple, uList, uSet, atI_zero, atI_one, ixN_20, ixN_zero, List.set_cons_zero, uPow, t2__law_due]
    refine l2__law_due' (G0 := G) hra _ nss [] _ _ _ (fun ns hn => (h1 ns hn).2) (by simp; omega) (.new hra) up_same fun o2 o4 G1 l1 h => ?_
    simp only [trSs, trS, trE, trT, trX, pl, trA, trO, trC, trI, uBin_s, uUn_s, uVar_s, uC_s, getS, setS, uOp, uAdd, uSub, uMul, uDiv, uMod, uPow, uNeg, uCmp, uEqF, uLt, uLe, uGt, uGe, uIsF, isNonU, uTru, Blt.fn, uLen, uAbs, uMax2, uMin2, uInt, uIx, startU, gam_fn, gam_gl, tab_xcs, tab_sub, UD_nx, UD_rt, UD_bk, UD_ct, UD_ex, spAt, glAt, gls, seqOf, List.map_cons, List.map_nil, List.cons_append, List.nil_append, List.length_cons, List.length_nil, List.replicate, Nat.reduceAdd, Nat.reduceSub, Nat.zero_add, reduceIte, Bool.false_eq_true, Bool.true_eq_false, Bool.false_bne, Bool.true_bne, Bool.not_true, Bool.not_false, Bool.not_not, List.reverse_cons, List.reverse_nil, Option.map_some, Option.map_none, up_same, uTuple, uList, uSet, atI_zero, atI_one, ixN_20, ixN_zero, List.set_cons_zero, uPow, t1__law_due, h]
    exact fin.of (q _ l1)
  | mixed ps =>
    obtain ⟨h1, h2⟩ := ho
    simp only [trSs, trS, trE, trT, trX, pl, trA, trO, trC, trI, uBin_s, uUn_s, uVar_s, uC_s, getS, setS, uOp, uAdd, uSub, uMul, uDiv, uMod, uPow, uNeg, uCmp, uEqF, uLt, uLe, uGt, uGe, uIsF, isNonU, uTru, Blt.fn, uLen, uAbs, uMax2, uMin2, uInt, uIx, startU, gam_fn, gam_gl, tab_xcs, tab_sub, UD_nx, UD_rt, UD_bk, UD_ct, UD_ex, spAt, glAt, gls, seqOf, List.map_cons, List.map_nil, List.cons_append, List.nil_append, List.length_cons, List.length_nil, List.replicate, Nat.reduceAdd, Nat.reduceSub, Nat.zero_add, reduceIte, Bool.false_eq_true, Bool.true_eq_false, Bool.false_bne, Bool.true_bne, Bool.not_true, Bool.not_false, Bool.not_not, List.reverse_cons, List.reverse_nil, Option.map_some, Option.map_none, up_same, uTuple, uList, uSet, atI_zero, atI_one, ixN_20, ixN_zero, List.set_cons_zero, uPow, b__law_due, n__law_due, Deed.u, s2, t8__law_due, s5, t7__law_due, decide_true, cl__law_due]
    exact ⟨ps, rfl, by omega, fun q hq => (h1 q hq).1, fun G' l => fin.of (q G' l)⟩
  | faded ns ps =>
    obtain ⟨h1, h2, h3, h4, h5⟩ := ho
    simp only [trSs, trS, trE, trT, trX, pl, trA, trO, trC, trI, uBin_s, uUn_s, uVar_s, uC_s, getS, setS, uOp, uAdd, uSub, uMul, uDiv, uMod, uPow, uNeg, uCmp, uEqF, uLt, uLe, uGt, uGe, uIsF, isNonU, uTru, Blt.fn, uLen, uAbs, uMax2, uMin2, uInt, uIx, startU, gam_fn, gam_gl, tab_xcs, tab_sub, UD_nx, UD_rt, UD_bk, UD_ct, UD_ex, spAt, glAt, gls, seqOf, List.map_cons, List.map_nil, List.cons_append, List.nil_append, List.length_cons, List.length_nil, List.replicate, Nat.reduceAdd, Nat.reduceSub, Nat.zero_add, reduceIte, Bool.false_eq_true, Bool.true_eq_false, Bool.false_bne, Bool.true_bne, Bool.not_true, Bool.not_false, Bool.not_not, List.reverse_cons, List.reverse_nil, Option.map_some, Option.map_none, up_same, uTuple, uList, uSet, atI_zero, atI_one, ixN_20, ixN_zero, List.set_cons_zero, uPow, b__law_due, n__law_due, Deed.u, s3, t8__law_due, s6, t7__law_due, s8, t6__law_due, decide_true, sndU]
    intro p hp
    refine lcU_grow (fun y => U.int (clipI ((2 * intV (mulF ps y) + 4096) / 8192))) hp depsNil _ [] _ (.new hp) up_same (by rw [enum_len, List.length_map, List.length_nil]; omega) ?_ ?_
    · intro y hy acc G1 K1 K0 l1 ha k1
      obtain ⟨j, x, rfl, hx⟩ := enum_memI _ _ _ hy
      have hb := h1 x hx
      simp only [trSs, trS, trE, trT, trX, pl, trA, trO, trC, trI, uBin_s, uUn_s, uVar_s, uC_s, getS, setS, uOp, uAdd, uSub, uMul, uDiv, uMod, uPow, uNeg, uCmp, uEqF, uLt, uLe, uGt, uGe, uIsF, isNonU, uTru, Blt.fn, uLen, uAbs, uMax2, uMin2, uInt, uIx, startU, gam_fn, gam_gl, tab_xcs, tab_sub, UD_nx, UD_rt, UD_bk, UD_ct, UD_ex, spAt, glAt, gls, seqOf, List.map_cons, List.map_nil, List.cons_append, List.nil_append, List.length_cons, List.length_nil, List.replicate, Nat.reduceAdd, Nat.reduceSub, Nat.zero_add, reduceIte, Bool.false_eq_true, Bool.true_eq_false, Bool.false_bne, Bool.true_bne, Bool.not_true, Bool.not_false, Bool.not_not, List.reverse_cons, List.reverse_nil, Option.map_some, Option.map_none, up_same, uTuple, uList, uSet, atI_zero, atI_one, ixN_20, ixN_zero, List.set_cons_zero, uPow, slotsG, slotsGs, wipeU, trG, trGs, lenG, i2, cl__law_due]
      exact ⟨trivial, trivial, ps, j, rfl, h3, h4, h5, fun G2 l2 => ⟨x, _, rfl, hb.1, hb.2, fun G3 l3 => k1 G3 (l2.trans l3)⟩⟩
    · intro G1 l1 ha
      rw [List.nil_append, fad_enum] at ha
      simp only [trSs, trS, trE, trT, trX, pl, trA, trO, trC, trI, uBin_s, uUn_s, uVar_s, uC_s, getS, setS, uOp, uAdd, uSub, uMul, uDiv, uMod, uPow, uNeg, uCmp, uEqF, uLt, uLe, uGt, uGe, uIsF, isNonU, uTru, Blt.fn, uLen, uAbs, uMax2, uMin2, uInt, uIx, startU, gam_fn, gam_gl, tab_xcs, tab_sub, UD_nx, UD_rt, UD_bk, UD_ct, UD_ex, spAt, glAt, gls, seqOf, List.map_cons, List.map_nil, List.cons_append, List.nil_append, List.length_cons, List.length_nil, List.replicate, Nat.reduceAdd, Nat.reduceSub, Nat.zero_add, reduceIte, Bool.false_eq_true, Bool.true_eq_false, Bool.false_bne, Bool.true_bne, Bool.not_true, Bool.not_false, Bool.not_not, List.reverse_cons, List.reverse_nil, Option.map_some, Option.map_none, up_same, uTuple, uList, uSet, atI_zero, atI_one, ixN_20, ixN_zero, List.set_cons_zero, uPow, ha]
      exact fin.of (q _ l1)
  | back ns =>
    obtain ⟨h1, h2⟩ := ho
    simp only [trSs, trS, trE, trT, trX, pl, trA, trO, trC, trI, uBin_s, uUn_s, uVar_s, uC_s, getS, setS, uOp, uAdd, uSub, uMul, uDiv, uMod, uPow, uNeg, uCmp, uEqF, uLt, uLe, uGt, uGe, uIsF, isNonU, uTru, Blt.fn, uLen, uAbs, uMax2, uMin2, uInt, uIx, startU, gam_fn, gam_gl, tab_xcs, tab_sub, UD_nx, UD_rt, UD_bk, UD_ct, UD_ex, spAt, glAt, gls, seqOf, List.map_cons, List.map_nil, List.cons_append, List.nil_append, List.length_cons, List.length_nil, List.replicate, Nat.reduceAdd, Nat.reduceSub, Nat.zero_add, reduceIte, Bool.false_eq_true, Bool.true_eq_false, Bool.false_bne, Bool.true_bne, Bool.not_true, Bool.not_false, Bool.not_not, List.reverse_cons, List.reverse_nil, Option.map_some, Option.map_none, up_same, uTuple, uList, uSet, atI_zero, atI_one, ixN_20, ixN_zero, List.set_cons_zero, uPow, b__law_due, n__law_due, Deed.u, s4, t8__law_due, s7, t7__law_due, s9, t6__law_due, s10, t5__law_due, trG]
    refine ⟨by omega, fun ra hra => ?_⟩
    simp only [trSs, trS, trE, trT, trX, pl, trA, trO, trC, trI, uBin_s, uUn_s, uVar_s, uC_s, getS, setS, uOp, uAdd, uSub, uMul, uDiv, uMod, uPow, uNeg, uCmp, uEqF, uLt, uLe, uGt, uGe, uIsF, isNonU, uTru, Blt.fn, uLen, uAbs, uMax2, uMin2, uInt, uIx, startU, gam_fn, gam_gl, tab_xcs, tab_sub, UD_nx, UD_rt, UD_bk, UD_ct, UD_ex, spAt, glAt, gls, seqOf, List.map_cons, List.map_nil, List.cons_append, List.nil_append, List.length_cons, List.length_nil, List.replicate, Nat.reduceAdd, Nat.reduceSub, Nat.zero_add, reduceIte, Bool.false_eq_true, Bool.true_eq_false, Bool.false_bne, Bool.true_bne, Bool.not_true, Bool.not_false, Bool.not_not, List.reverse_cons, List.reverse_nil, Option.map_some, Option.map_none, up_same, uTuple, uList, uSet, atI_zero, atI_one, ixN_20, ixN_zero, List.set_cons_zero, uPow, t4__law_due]
    refine l3__law_due' (G0 := G) hra _ (ns.map U.int) [] _ _ (by simp; omega) (.new hra) up_same fun o2 G1 l1 h => ?_
    simp only [trSs, trS, trE, trT, trX, pl, trA, trO, trC, trI, uBin_s, uUn_s, uVar_s, uC_s, getS, setS, uOp, uAdd, uSub, uMul, uDiv, uMod, uPow, uNeg, uCmp, uEqF, uLt, uLe, uGt, uGe, uIsF, isNonU, uTru, Blt.fn, uLen, uAbs, uMax2, uMin2, uInt, uIx, startU, gam_fn, gam_gl, tab_xcs, tab_sub, UD_nx, UD_rt, UD_bk, UD_ct, UD_ex, spAt, glAt, gls, seqOf, List.map_cons, List.map_nil, List.cons_append, List.nil_append, List.length_cons, List.length_nil, List.replicate, Nat.reduceAdd, Nat.reduceSub, Nat.zero_add, reduceIte, Bool.false_eq_true, Bool.true_eq_false, Bool.false_bne, Bool.true_bne, Bool.not_true, Bool.not_false, Bool.not_not, List.reverse_cons, List.reverse_nil, Option.map_some, Option.map_none, up_same, uTuple, uList, uSet, atI_zero, atI_one, ixN_20, ixN_zero, List.set_cons_zero, uPow, t3__law_due, h, List.append_nil]
    rw [← List.map_reverse]
    exact fin.of (q _ l1)
/-! ### _law_told -/
def BadD (G : UH) (u : U) (w : Str) : Prop :=
  (∃ s lo hi, u = .tup [.str "cut", s, lo, hi] ∧ okS G s ∧ tyS G lo ∧ tyS G hi ∧ cutW s lo hi = some w) ∨
  (∃ x, u = .tup [.str "joined", x] ∧ ok2 G x ∧ (tupL x).length ≤ 100000 ∧ isJ x = false ∧ w = "sounds") ∨
  (∃ x, u = .tup [.str "mixed", x] ∧ ok3 G x ∧ (tupL x).length ≤ 1000 ∧ isP x = false ∧ w = "parts") ∨
  (∃ s x, u = .tup [.str "faded", s, x] ∧ okS G s ∧ ok2 G x ∧ ((isS s = false ∧ w = "sound") ∨ (isS s = true ∧ isPts x = false ∧ w = "points"))) ∨
  (∃ s, u = .tup [.str "back", s] ∧ okS G s ∧ isS s = false ∧ w = "sound")
def sp__law_told : USp := fun us G Q E => ∃ u, us = [u] ∧ ((∃ d : Deed, u = d.u ∧ d.ok ∧ Q (sndU d.due) G) ∨ ∃ w, BadD G u w ∧ E (xnu w) G)
def cl__law_told : List (Str × USp) := [("cut", sp_cut), ("joined", sp_joined), ("mixed", sp_mixed), ("faded", sp_faded), ("turned_back", sp_turned_back)]
theorem okS_ints {G : UH} (ns : List Int) : okS G (sndU ns) := ⟨rfl, fun ws e x hx => by
  cases e
  obtain ⟨n, _, rfl⟩ := List.mem_map.mp hx
  rfl⟩
theorem ok2_snds {G : UH} (nss : List (List Int)) : ok2 G (.tup (nss.map sndU)) := ⟨rfl, fun ws e x hx => by
  cases e
  obtain ⟨n, _, rfl⟩ := List.mem_map.mp hx
  exact okS_ints n⟩
theorem ok2_part {G : UH} (q : Part) : ok2 G (partU q) := ⟨rfl, fun ws e x hx => by
  cases e
  simp only [List.mem_cons, List.mem_nil_iff, or_false] at hx
  rcases hx with rfl | rfl
  · exact okS_ints q.1
  · exact ⟨rfl, fun ws e => by cases e⟩⟩
theorem ok3_parts {G : UH} (ps : List Part) : ok3 G (.tup (ps.map partU)) := ⟨rfl, fun ws e x hx => by
  cases e
  obtain ⟨n, _, rfl⟩ := List.mem_map.mp hx
  exact ok2_part n⟩
theorem ok2_pts {G : UH} (ps : List (Int × Int)) : ok2 G (.tup (ps.map ptU)) := ⟨rfl, fun ws e x hx => by
  cases e
  obtain ⟨n, _, rfl⟩ := List.mem_map.mp hx
  refine ⟨rfl, fun ws e y hy => ?_⟩
  cases e
  simp only [List.mem_cons, List.mem_nil_iff, or_false] at hy
  rcases hy with rfl | rfl <;> rfl⟩
theorem flat_snds : ∀ nss : List (List Int), (nss.map sndU).flatMap tupL = nss.flatten.map U.int
  | [] => rfl
  | ns :: nss => by
    rw [List.map_cons, List.flatMap_cons, flat_snds nss, List.flatten_cons, List.map_append]
    rfl
theorem flat_len : ∀ nss : List (List Int), (∀ ns ∈ nss, ns.length ≤ 90) → nss.flatten.length ≤ 90 * nss.length
  | [], _ => by simp
  | ns :: nss, h => by
    have := flat_len nss fun x hx => h x (List.mem_cons_of_mem _ hx)
    have := h ns List.mem_cons_self
    rw [List.flatten_cons, List.length_append, List.length_cons]
    omega
theorem w__law_told (us : List U) (G : UH) (Q : UK) (E : UXn → UH → Prop) (h : sp__law_told us G Q E) : trSs (TB cl__law_told) (GM cl__law_told) b__law_told (UD Q E) (startU n__law_told us) G := by
  obtain ⟨u, rfl, h⟩ := h
  rcases h with ⟨d, rfl, ho, q⟩ | ⟨w, hb, q⟩
  · cases d with
    | cut ns lo hi =>
      obtain ⟨h1, h2, h3, h4, h5⟩ := ho
      simp only [trSs, trS, trE, trT, trX, pl, trA, trO, trC, trI, uBin_s, uUn_s, uVar_s, uC_s, getS, setS, uOp, uAdd, uSub, uMul, uDiv, uMod, uPow, uNeg, uCmp, uEqF, uLt, uLe, uGt, uGe, uIsF, isNonU, uTru, Blt.fn, uLen, uAbs, uMax2, uMin2, uInt, uIx, startU, gam_fn, gam_gl, tab_xcs, tab_sub, UD_nx, UD_rt, UD_bk, UD_ct, UD_ex, spAt, glAt, gls, seqOf, List.map_cons, List.map_nil, List.cons_append, List.nil_append, List.length_cons, List.length_nil, List.replicate, Nat.reduceAdd, Nat.reduceSub, Nat.zero_add, reduceIte, Bool.false_eq_true, Bool.true_eq_false, Bool.false_bne, Bool.true_bne, Bool.not_true, Bool.not_false, Bool.not_not, List.reverse_cons, List.reverse_nil, Option.map_some, Option.map_none, up_same, uTuple, uList, uSet, atI_zero, atI_one, ixN_20, ixN_zero, List.set_cons_zero, uPow, b__law_told, n__law_told, Deed.u, decide_true, i2, i3, cl__law_told]
      refine ⟨_, _, _, rfl, okS_ints ns, rfl, rfl, ?_⟩
      have e : cutW (sndU ns) (.int lo) (.int hi) = none := by
        unfold cutW
        rw [if_pos (show isS (sndU ns) = true from W_ints h1), if_pos (show isN (.int lo) = true from decide_eq_true h3), show isN (.int hi) = true from decide_eq_true (by omega), Bool.true_and]
        have : highB (intV (.int lo)) (intV (.int hi)) ((tupL (sndU ns)).length : Int) = true := highB_t h4 (by show hi ≤ ((ns.map U.int).length : Int); rw [List.length_map]; exact h5)
        rw [if_pos this]
      rw [e]
      have e2 : cutU (tupL (sndU ns)) (some (intV (.int lo))) (some (intV (.int hi))) = ((Deed.cut ns lo hi).due).map U.int := by
        show cutU (ns.map U.int) (some lo) (some hi) = ((ns.drop lo.toNat).take (hi - lo).toNat).map U.int
        unfold cutU HT.sIx
        simp only
        rw [if_neg (by omega), if_neg (by omega), List.length_map, Nat.min_eq_left (by omega), Nat.min_eq_left (by omega), ← List.map_drop, ← List.map_take, show hi.toNat - lo.toNat = (hi - lo).toNat by omega]
      rw [e2]
      exact fin.of q
    | joined nss =>
      obtain ⟨h1, h2⟩ := ho
      simp only [trSs, trS, trE, trT, trX, pl, trA, trO, trC, trI, uBin_s, uUn_s, uVar_s, uC_s, getS, setS, uOp, uAdd, uSub, uMul, uDiv, uMod, uPow, uNeg, uCmp, uEqF, uLt, uLe, uGt, uGe, uIsF, isNonU, uTru, Blt.fn, uLen, uAbs, uMax2, uMin2, uInt, uIx, startU, gam_fn, gam_gl, tab_xcs, tab_sub, UD_nx, UD_rt, UD_bk, UD_ct, UD_ex, spAt, glAt, gls, seqOf, List.map_cons, List.map_nil, List.cons_append, List.nil_append, List.length_cons, List.length_nil, List.replicate, Nat.reduceAdd, Nat.reduceSub, Nat.zero_add, reduceIte, Bool.false_eq_true, Bool.true_eq_false, Bool.false_bne, Bool.true_bne, Bool.not_true, Bool.not_false, Bool.not_not, List.reverse_cons, List.reverse_nil, Option.map_some, Option.map_none, up_same, uTuple, uList, uSet, atI_zero, atI_one, ixN_20, ixN_zero, List.set_cons_zero, uPow, b__law_told, n__law_told, Deed.u, s1, t4__law_told, decide_true, cl__law_told]
      refine ⟨_, rfl, ok2_snds nss, ?_, ?_⟩
      · show (nss.map sndU).length ≤ 100000
        rw [List.length_map]
        omega
      · have e : isJ (.tup (nss.map sndU)) = true := by
          show (nss.map sndU).all isS = true
          rw [List.all_map, List.all_eq_true]
          exact fun ns hn => W_ints (h1 ns hn).1
        rw [if_pos e]
        have fl := flat_len nss fun ns hn => (h1 ns hn).2
        refine ⟨?_, fin.of ?_⟩
        · show ((nss.map sndU).flatMap tupL).length ≤ 100000
          rw [flat_snds, List.length_map]
          omega
        · show Q (.tup ((nss.map sndU).flatMap tupL)) G
          rw [flat_snds]
          exact q
    | mixed ps =>
      obtain ⟨h1, h2⟩ := ho
      simp only [trSs, trS, trE, trT, trX, pl, trA, trO, trC, trI, uBin_s, uUn_s, uVar_s, uC_s, getS, setS, uOp, uAdd, uSub, uMul, uDiv, uMod, uPow, uNeg, uCmp, uEqF, uLt, uLe, uGt, uGe, uIsF, isNonU, uTru, Blt.fn, uLen, uAbs, uMax2, uMin2, uInt, uIx, startU, gam_fn, gam_gl, tab_xcs, tab_sub, UD_nx, UD_rt, UD_bk, UD_ct, UD_ex, spAt, glAt, gls, seqOf, List.map_cons, List.map_nil, List.cons_append, List.nil_append, List.length_cons, List.length_nil, List.replicate, Nat.reduceAdd, Nat.reduceSub, Nat.zero_add, reduceIte, Bool.false_eq_true, Bool.true_eq_false, Bool.false_bne, Bool.true_bne, Bool.not_true, Bool.not_false, Bool.not_not, List.reverse_cons, List.reverse_nil, Option.map_some, Option.map_none, up_same, uTuple, uList, uSet, atI_zero, atI_one, ixN_20, ixN_zero, List.set_cons_zero, uPow, b__law_told, n__law_told, Deed.u, s2, t4__law_told, s5, t3__law_told, decide_true, cl__law_told]
      refine ⟨_, rfl, ok3_parts ps, ?_, .inr ⟨ps, rfl, fun q hq => (h1 q hq).1, fin.of q⟩⟩
      show (ps.map partU).length ≤ 1000
      rw [List.length_map]
      omega
    | faded ns ps =>
      obtain ⟨h1, h2, h3, h4, h5⟩ := ho
      simp only [trSs, trS, trE, trT, trX, pl, trA, trO, trC, trI, uBin_s, uUn_s, uVar_s, uC_s, getS, setS, uOp, uAdd, uSub, uMul, uDiv, uMod, uPow, uNeg, uCmp, uEqF, uLt, uLe, uGt, uGe, uIsF, isNonU, uTru, Blt.fn, uLen, uAbs, uMax2, uMin2, uInt, uIx, startU, gam_fn, gam_gl, tab_xcs, tab_sub, UD_nx, UD_rt, UD_bk, UD_ct, UD_ex, spAt, glAt, gls, seqOf, List.map_cons, List.map_nil, List.cons_append, List.nil_append, List.length_cons, List.length_nil, List.replicate, Nat.reduceAdd, Nat.reduceSub, Nat.zero_add, reduceIte, Bool.false_eq_true, Bool.true_eq_false, Bool.false_bne, Bool.true_bne, Bool.not_true, Bool.not_false, Bool.not_not, List.reverse_cons, List.reverse_nil, Option.map_some, Option.map_none, up_same, uTuple, uList, uSet, atI_zero, atI_one, ixN_20, ixN_zero, List.set_cons_zero, uPow, b__law_told, n__law_told, Deed.u, s3, t4__law_told, s6, t3__law_told, s8, t2__law_told, decide_true, i2, cl__law_told]
      exact ⟨_, _, rfl, okS_ints ns, ok2_pts ps, .inr (.inr ⟨ns, ps, rfl, rfl, h1, by omega, h3, h4, h5, fin.of q⟩)⟩
    | back ns =>
      obtain ⟨h1, h2⟩ := ho
      simp only [trSs, trS, trE, trT, trX, pl, trA, trO, trC, trI, uBin_s, uUn_s, uVar_s, uC_s, getS, setS, uOp, uAdd, uSub, uMul, uDiv, uMod, uPow, uNeg, uCmp, uEqF, uLt, uLe, uGt, uGe, uIsF, isNonU, uTru, Blt.fn, uLen, uAbs, uMax2, uMin2, uInt, uIx, startU, gam_fn, gam_gl, tab_xcs, tab_sub, UD_nx, UD_rt, UD_bk, UD_ct, UD_ex, spAt, glAt, gls, seqOf, List.map_cons, List.map_nil, List.cons_append, List.nil_append, List.length_cons, List.length_nil, List.replicate, Nat.reduceAdd, Nat.reduceSub, Nat.zero_add, reduceIte, Bool.false_eq_true, Bool.true_eq_false, Bool.false_bne, Bool.true_bne, Bool.not_true, Bool.not_false, Bool.not_not, List.reverse_cons, List.reverse_nil, Option.map_some, Option.map_none, up_same, uTuple, uList, uSet, atI_zero, atI_one, ixN_20, ixN_zero, List.set_cons_zero, uPow, b__law_told, n__law_told, Deed.u, s4, t4__law_told, s7, t3__law_told, s9, t2__law_told, s10, t1__law_told, cl__law_told]
      refine ⟨_, rfl, okS_ints ns, ?_⟩
      rw [if_pos (show isS (sndU ns) = true from W_ints h1)]
      have e : stp (tupL (sndU ns)) (-1) = ((Deed.back ns).due).map U.int := by
        rw [stp_rev]
        exact List.map_reverse.symm
      rw [e]
      exact fin.of q
  · rcases hb with ⟨s, lo, hi, rfl, h1, h2, h3, h4⟩ | ⟨x, rfl, h1, h2, h3, rfl⟩ | ⟨x, rfl, h1, h2, h3, rfl⟩ | ⟨s, x, rfl, h1, h2, h3⟩ | ⟨s, rfl, h1, h2, rfl⟩
    · simp only [trSs, trS, trE, trT, trX, pl, trA, trO, trC, trI, uBin_s, uUn_s, uVar_s, uC_s, getS, setS, uOp, uAdd, uSub, uMul, uDiv, uMod, uPow, uNeg, uCmp, uEqF, uLt, uLe, uGt, uGe, uIsF, isNonU, uTru, Blt.fn, uLen, uAbs, uMax2, uMin2, uInt, uIx, startU, gam_fn, gam_gl, tab_xcs, tab_sub, UD_nx, UD_rt, UD_bk, UD_ct, UD_ex, spAt, glAt, gls, seqOf, List.map_cons, List.map_nil, List.cons_append, List.nil_append, List.length_cons, List.length_nil, List.replicate, Nat.reduceAdd, Nat.reduceSub, Nat.zero_add, reduceIte, Bool.false_eq_true, Bool.true_eq_false, Bool.false_bne, Bool.true_bne, Bool.not_true, Bool.not_false, Bool.not_not, List.reverse_cons, List.reverse_nil, Option.map_some, Option.map_none, up_same, uTuple, uList, uSet, atI_zero, atI_one, ixN_20, ixN_zero, List.set_cons_zero, uPow, b__law_told, n__law_told, decide_true, i2, i3, cl__law_told]
      refine ⟨_, _, _, rfl, h1, h2, h3, ?_⟩
      rw [h4]
      exact fin.of q
    · simp only [trSs, trS, trE, trT, trX, pl, trA, trO, trC, trI, uBin_s, uUn_s, uVar_s, uC_s, getS, setS, uOp, uAdd, uSub, uMul, uDiv, uMod, uPow, uNeg, uCmp, uEqF, uLt, uLe, uGt, uGe, uIsF, isNonU, uTru, Blt.fn, uLen, uAbs, uMax2, uMin2, uInt, uIx, startU, gam_fn, gam_gl, tab_xcs, tab_sub, UD_nx, UD_rt, UD_bk, UD_ct, UD_ex, spAt, glAt, gls, seqOf, List.map_cons, List.map_nil, List.cons_append, List.nil_append, List.length_cons, List.length_nil, List.replicate, Nat.reduceAdd, Nat.reduceSub, Nat.zero_add, reduceIte, Bool.false_eq_true, Bool.true_eq_false, Bool.false_bne, Bool.true_bne, Bool.not_true, Bool.not_false, Bool.not_not, List.reverse_cons, List.reverse_nil, Option.map_some, Option.map_none, up_same, uTuple, uList, uSet, atI_zero, atI_one, ixN_20, ixN_zero, List.set_cons_zero, uPow, b__law_told, n__law_told, s1, t4__law_told, decide_true, cl__law_told]
      refine ⟨_, rfl, h1, h2, ?_⟩
      rw [if_neg (by rw [h3]; decide)]
      exact fin.of q
    · simp only [trSs, trS, trE, trT, trX, pl, trA, trO, trC, trI, uBin_s, uUn_s, uVar_s, uC_s, getS, setS, uOp, uAdd, uSub, uMul, uDiv, uMod, uPow, uNeg, uCmp, uEqF, uLt, uLe, uGt, uGe, uIsF, isNonU, uTru, Blt.fn, uLen, uAbs, uMax2, uMin2, uInt, uIx, startU, gam_fn, gam_gl, tab_xcs, tab_sub, UD_nx, UD_rt, UD_bk, UD_ct, UD_ex, spAt, glAt, gls, seqOf, List.map_cons, List.map_nil, List.cons_append, List.nil_append, List.length_cons, List.length_nil, List.replicate, Nat.reduceAdd, Nat.reduceSub, Nat.zero_add, reduceIte, Bool.false_eq_true, Bool.true_eq_false, Bool.false_bne, Bool.true_bne, Bool.not_true, Bool.not_false, Bool.not_not, List.reverse_cons, List.reverse_nil, Option.map_some, Option.map_none, up_same, uTuple, uList, uSet, atI_zero, atI_one, ixN_20, ixN_zero, List.set_cons_zero, uPow, b__law_told, n__law_told, s2, t4__law_told, s5, t3__law_told, decide_true, cl__law_told]
      exact ⟨_, rfl, h1, h2, .inl ⟨h3, fin.of q⟩⟩
    · simp only [trSs, trS, trE, trT, trX, pl, trA, trO, trC, trI, uBin_s, uUn_s, uVar_s, uC_s, getS, setS, uOp, uAdd, uSub, uMul, uDiv, uMod, uPow, uNeg, uCmp, uEqF, uLt, uLe, uGt, uGe, uIsF, isNonU, uTru, Blt.fn, uLen, uAbs, uMax2, uMin2, uInt, uIx, startU, gam_fn, gam_gl, tab_xcs, tab_sub, UD_nx, UD_rt, UD_bk, UD_ct, UD_ex, spAt, glAt, gls, seqOf, List.map_cons, List.map_nil, List.cons_append, List.nil_append, List.length_cons, List.length_nil, List.replicate, Nat.reduceAdd, Nat.reduceSub, Nat.zero_add, reduceIte, Bool.false_eq_true, Bool.true_eq_false, Bool.false_bne, Bool.true_bne, Bool.not_true, Bool.not_false, Bool.not_not, List.reverse_cons, List.reverse_nil, Option.map_some, Option.map_none, up_same, uTuple, uList, uSet, atI_zero, atI_one, ixN_20, ixN_zero, List.set_cons_zero, uPow, b__law_told, n__law_told, s3, t4__law_told, s6, t3__law_told, s8, t2__law_told, decide_true, i2, cl__law_told]
      refine ⟨_, _, rfl, h1, h2, ?_⟩
      rcases h3 with ⟨h3, rfl⟩ | ⟨h3, h4, rfl⟩
      · exact .inl ⟨h3, fin.of q⟩
      · exact .inr (.inl ⟨h3, h4, fin.of q⟩)
    · simp only [trSs, trS, trE, trT, trX, pl, trA, trO, trC, trI, uBin_s, uUn_s, uVar_s, uC_s, getS, setS, uOp, uAdd, uSub, uMul, uDiv, uMod, uPow, uNeg, uCmp, uEqF, uLt, uLe, uGt, uGe, uIsF, isNonU, uTru, Blt.fn, uLen, uAbs, uMax2, uMin2, uInt, uIx, startU, gam_fn, gam_gl, tab_xcs, tab_sub, UD_nx, UD_rt, UD_bk, UD_ct, UD_ex, spAt, glAt, gls, seqOf, List.map_cons, List.map_nil, List.cons_append, List.nil_append, List.length_cons, List.length_nil, List.replicate, Nat.reduceAdd, Nat.reduceSub, Nat.zero_add, reduceIte, Bool.false_eq_true, Bool.true_eq_false, Bool.false_bne, Bool.true_bne, Bool.not_true, Bool.not_false, Bool.not_not, List.reverse_cons, List.reverse_nil, Option.map_some, Option.map_none, up_same, uTuple, uList, uSet, atI_zero, atI_one, ixN_20, ixN_zero, List.set_cons_zero, uPow, b__law_told, n__law_told, s4, t4__law_told, s7, t3__law_told, s9, t2__law_told, s10, t1__law_told, cl__law_told]
      refine ⟨_, rfl, h1, ?_⟩
      rw [if_neg (by rw [h2]; decide)]
      exact fin.of q
/-! ### _law_refused -/
def sp__law_refused : USp := fun us G Q _ => ∃ u w, us = [u] ∧ BadD G u w ∧ Q (.tup [.str w, .int (-1)]) G
def cl__law_refused : List (Str × USp) := [("_law_told", sp__law_told)]
theorem w__law_refused (us : List U) (G : UH) (Q : UK) (E : UXn → UH → Prop) (h : sp__law_refused us G Q E) : trSs (TB cl__law_refused) (GM cl__law_refused) b__law_refused (UD Q E) (startU n__law_refused us) G := by
  obtain ⟨u, w, rfl, hb, q⟩ := h
  have lg := line_ge
  simp only [trSs, trS, trE, trT, trX, pl, trA, trO, trC, trI, uBin_s, uUn_s, uVar_s, uC_s, getS, setS, uOp, uAdd, uSub, uMul, uDiv, uMod, uPow, uNeg, uCmp, uEqF, uLt, uLe, uGt, uGe, uIsF, isNonU, uTru, Blt.fn, uLen, uAbs, uMax2, uMin2, uInt, uIx, startU, gam_fn, gam_gl, tab_xcs, tab_sub, UD_nx, UD_rt, UD_bk, UD_ct, UD_ex, spAt, glAt, gls, seqOf, List.map_cons, List.map_nil, List.cons_append, List.nil_append, List.length_cons, List.length_nil, List.replicate, Nat.reduceAdd, Nat.reduceSub, Nat.zero_add, reduceIte, Bool.false_eq_true, Bool.true_eq_false, Bool.false_bne, Bool.true_bne, Bool.not_true, Bool.not_false, Bool.not_not, List.reverse_cons, List.reverse_nil, Option.map_some, Option.map_none, up_same, uTuple, uList, uSet, atI_zero, atI_one, ixN_20, ixN_zero, List.set_cons_zero, uPow, b__law_refused, n__law_refused, cl__law_refused]
  refine ⟨u, rfl, .inr ⟨w, hb, ?_⟩⟩
  simp only [trSs, trS, trE, trT, trX, pl, trA, trO, trC, trI, uBin_s, uUn_s, uVar_s, uC_s, getS, setS, uOp, uAdd, uSub, uMul, uDiv, uMod, uPow, uNeg, uCmp, uEqF, uLt, uLe, uGt, uGe, uIsF, isNonU, uTru, Blt.fn, uLen, uAbs, uMax2, uMin2, uInt, uIx, startU, gam_fn, gam_gl, tab_xcs, tab_sub, UD_nx, UD_rt, UD_bk, UD_ct, UD_ex, spAt, glAt, gls, seqOf, List.map_cons, List.map_nil, List.cons_append, List.nil_append, List.length_cons, List.length_nil, List.replicate, Nat.reduceAdd, Nat.reduceSub, Nat.zero_add, reduceIte, Bool.false_eq_true, Bool.true_eq_false, Bool.false_bne, Bool.true_bne, Bool.not_true, Bool.not_false, Bool.not_not, List.reverse_cons, List.reverse_nil, Option.map_some, Option.map_none, up_same, uTuple, uList, uSet, atI_zero, atI_one, ixN_20, ixN_zero, List.set_cons_zero, uPow, xnu, trH, trHs, xcs, sub]
  have fin1 : 2 ≤ sizeLine ∧ fin (Q (.tup [.str w, .int (-1)])) G := ⟨by omega, fin.of q⟩
  exact ⟨_, _, rfl, fin1⟩
end K79
set_option Elab.async false
set_option linter.all false
set_option autoImplicit false
set_option maxRecDepth 100000
set_option maxHeartbeats 4000000
namespace K79
open PySem PySem.Spec L2 UL
/-! ### typed all through -/
def okk : Nat → UH → U → Prop
  | 0, G, u => tyS G u
  | n + 1, G, .tup us => ∀ x ∈ us, okk n G x
  | _ + 1, G, u => tyS G u
theorem okk_ty {n : Nat} {G : UH} {u : U} (h : okk n G u) : tyS G u := by
  cases n with
  | zero => exact h
  | succ n =>
    cases u with
    | tup us => rfl
    | _ => exact h
theorem okk1 {G : UH} {u : U} (h : okk 1 G u) : okS G u := ⟨okk_ty h, fun ws e x hx => by subst e; exact h x hx⟩
theorem okk2 {G : UH} {u : U} (h : okk 2 G u) : ok2 G u := ⟨okk_ty h, fun ws e x hx => by subst e; exact okk1 (h x hx)⟩
theorem okk3 {G : UH} {u : U} (h : okk 3 G u) : ok3 G u := ⟨okk_ty h, fun ws e x hx => by subst e; exact okk2 (h x hx)⟩
theorem okS_tk {G G' : UH} (t : Tk G G') {u : U} (h : okS G u) : okS G' u := ⟨t u h.1, fun ws e x hx => t x (h.2 ws e x hx)⟩
theorem ok2_tk {G G' : UH} (t : Tk G G') {u : U} (h : ok2 G u) : ok2 G' u := ⟨t u h.1, fun ws e x hx => okS_tk t (h.2 ws e x hx)⟩
theorem ok3_tk {G G' : UH} (t : Tk G G') {u : U} (h : ok3 G u) : ok3 G' u := ⟨t u h.1, fun ws e x hx => ok2_tk t (h.2 ws e x hx)⟩
theorem BadD.tk {G G' : UH} (t : Tk G G') {u : U} {w : Str} (h : BadD G u w) : BadD G' u w := by
  rcases h with ⟨s, lo, hi, rfl, h1, h2, h3, h4⟩ | ⟨x, rfl, h1, h2, h3, rfl⟩ | ⟨x, rfl, h1, h2, h3, rfl⟩ | ⟨s, x, rfl, h1, h2, h3⟩ | ⟨s, rfl, h1, h2, rfl⟩
  · exact .inl ⟨s, lo, hi, rfl, okS_tk t h1, t _ h2, t _ h3, h4⟩
  · exact .inr (.inl ⟨x, rfl, ok2_tk t h1, h2, h3, rfl⟩)
  · exact .inr (.inr (.inl ⟨x, rfl, ok3_tk t h1, h2, h3, rfl⟩))
  · exact .inr (.inr (.inr (.inl ⟨s, x, rfl, okS_tk t h1, ok2_tk t h2, h3⟩)))
  · exact .inr (.inr (.inr (.inr ⟨s, rfl, okS_tk t h1, h2, rfl⟩)))
theorem ix_any {G : UH} {r : Addr} {us : List U} {P : U → Prop} (h : G r = some (.lst us)) (hP : ∀ u ∈ us, P u) {i : Int} (h0 : 0 ≤ i) (h1 : i < us.length) {Q : UK} (q : ∀ u, P u → Q u G) : uIx (.ref r) (.int i) G Q := by
  have hi : i.toNat < us.length := by omega
  unfold uIx
  simp only [h, atI_nat h0 (List.getElem?_eq_getElem hi)]
  exact q _ (hP _ (List.getElem_mem hi))
/-! ### bad sounds -/
def sp__law_bad_sound : USp := fun us G Q _ => ∃ i : Int, us = [.int i] ∧ 0 ≤ i ∧ i < 11 ∧ ∀ u G', Le G G' → okS G' u → isS u = false → Q u G'
def cl__law_bad_sound : List (Str × USp) := []
theorem w__law_bad_sound (us : List U) (G : UH) (Q : UK) (E : UXn → UH → Prop) (h : sp__law_bad_sound us G Q E) : trSs (TB cl__law_bad_sound) (GM cl__law_bad_sound) b__law_bad_sound (UD Q E) (startU n__law_bad_sound us) G := by
  obtain ⟨i, rfl, h0, h1, q⟩ := h
  simp only [trSs, trS, trE, trT, trX, pl, trA, trO, trC, trI, uBin_s, uUn_s, uVar_s, uC_s, getS, setS, uOp, uAdd, uSub, uMul, uDiv, uMod, uPow, uNeg, uCmp, uEqF, uLt, uLe, uGt, uGe, uIsF, isNonU, uTru, Blt.fn, uAbs, uMax2, uMin2, uInt, startU, gam_fn, gam_gl, tab_xcs, tab_sub, UD_nx, UD_rt, UD_bk, UD_ct, UD_ex, spAt, glAt, gls, List.map_cons, List.map_nil, List.cons_append, List.nil_append, List.length_cons, List.length_nil, List.replicate, Nat.reduceAdd, Nat.reduceSub, Nat.zero_add, reduceIte, Bool.false_eq_true, Bool.true_eq_false, Bool.false_bne, Bool.true_bne, Bool.not_true, Bool.not_false, Bool.not_not, List.reverse_cons, List.reverse_nil, Option.map_some, Option.map_none, up_same, uSet, atI_zero, atI_one, ixN_20, ixN_zero, List.set_cons_zero, uPow, z_0, z_1, z_2, z_3, z_4, z_5, z_6, z_7, z_8, z_9, z_10, z_11, z_12, z_13, z_14, z_15, z_16, true_and, b__law_bad_sound, n__law_bad_sound]
  intro a1 ha1 a2 ha2 r hr
  have e1 := (Le.new hr (o := .lst [.ref a1, .tup [.int 0, .bl true], .tup [.int 3, .int 1048576], .tup [.int (-1048576)], .tup [.str "1"], .non, .str "ab", .tup [.tup [.int 1]], .int 0, .tup [.non, .int 2], .tup [.ref a2]])) a1 _ ((Le.new ha2 (o := .lst [.int 4])) a1 _ up_same)
  have e2 := (Le.new hr (o := .lst [.ref a1, .tup [.int 0, .bl true], .tup [.int 3, .int 1048576], .tup [.int (-1048576)], .tup [.str "1"], .non, .str "ab", .tup [.tup [.int 1]], .int 0, .tup [.non, .int 2], .tup [.ref a2]])) a2 _ up_same
  have l := ((Le.new ha1 (o := .lst [.int 1, .int 2])).trans (.new ha2 (o := .lst [.int 4]))).trans (.new hr (o := .lst [.ref a1, .tup [.int 0, .bl true], .tup [.int 3, .int 1048576], .tup [.int (-1048576)], .tup [.str "1"], .non, .str "ab", .tup [.tup [.int 1]], .int 0, .tup [.non, .int 2], .tup [.ref a2]]))
  refine ix_any (P := fun u => isS u = false ∧ okS _ u) up_same (fun u hu => ?_) h0 (by simpa using h1) fun u hu => fin.of (q u _ l hu.2 hu.1)
  have t1 := ty_ref e1
  have t2 := ty_ref e2
  simp only [List.mem_cons, List.mem_nil_iff, or_false] at hu
  rcases hu with rfl | rfl | rfl | rfl | rfl | rfl | rfl | rfl | rfl | rfl | rfl <;> refine ⟨rfl, okk1 ?_⟩
  · exact t1
  all_goals simp [okk, tyS, tyN]
  · simpa [tyS, tyN] using t2
/-! ### _law_bad_joined -/
def sp__law_bad_joined : USp := fun us G Q _ => ∃ i : Int, us = [.int i] ∧ 0 ≤ i ∧ i < 9 ∧ ∀ u G', Le G G' → ok2 G' u → isJ u = false → (tupL u).length ≤ 1000 → Q u G'
def cl__law_bad_joined : List (Str × USp) := []
theorem w__law_bad_joined (us : List U) (G : UH) (Q : UK) (E : UXn → UH → Prop) (h : sp__law_bad_joined us G Q E) : trSs (TB cl__law_bad_joined) (GM cl__law_bad_joined) b__law_bad_joined (UD Q E) (startU n__law_bad_joined us) G := by
  obtain ⟨i, rfl, h0, h1, q⟩ := h
  simp only [trSs, trS, trE, trT, trX, pl, trA, trO, trC, trI, uBin_s, uUn_s, uVar_s, uC_s, getS, setS, uOp, uAdd, uSub, uMul, uDiv, uMod, uPow, uNeg, uCmp, uEqF, uLt, uLe, uGt, uGe, uIsF, isNonU, uTru, Blt.fn, uAbs, uMax2, uMin2, uInt, startU, gam_fn, gam_gl, tab_xcs, tab_sub, UD_nx, UD_rt, UD_bk, UD_ct, UD_ex, spAt, glAt, gls, List.map_cons, List.map_nil, List.cons_append, List.nil_append, List.length_cons, List.length_nil, List.replicate, Nat.reduceAdd, Nat.reduceSub, Nat.zero_add, reduceIte, Bool.false_eq_true, Bool.true_eq_false, Bool.false_bne, Bool.true_bne, Bool.not_true, Bool.not_false, Bool.not_not, List.reverse_cons, List.reverse_nil, Option.map_some, Option.map_none, up_same, uSet, atI_zero, atI_one, ixN_20, ixN_zero, List.set_cons_zero, uPow, z_0, z_1, z_2, z_3, z_4, z_5, z_6, z_7, z_8, z_9, z_10, z_11, z_12, z_13, z_14, z_15, z_16, true_and, b__law_bad_joined, n__law_bad_joined]
  intro a1 ha1 a2 ha2 r hr
  have ea1 := ((Le.new ha2 (o := .lst [.int 2])).trans (.new hr (o := .lst [.ref a1, .tup [.tup [.int 1], .ref a2], .tup [.int 3], .non, .tup [.tup [.bl false]], .str "", .tup [.tup [], .tup [.int 1048576]], .tup [.tup [.int 2], .non], .int 5]))) a1 _ up_same
  have ta1 := ty_ref ea1
  have ea2 := (Le.new hr (o := .lst [.ref a1, .tup [.tup [.int 1], .ref a2], .tup [.int 3], .non, .tup [.tup [.bl false]], .str "", .tup [.tup [], .tup [.int 1048576]], .tup [.tup [.int 2], .non], .int 5])) a2 _ up_same
  have ta2 := ty_ref ea2
  have l := (((Le.new ha1 (o := .lst [.tup [.int 1]])).trans (.new ha2 (o := .lst [.int 2]))).trans (.new hr (o := .lst [.ref a1, .tup [.tup [.int 1], .ref a2], .tup [.int 3], .non, .tup [.tup [.bl false]], .str "", .tup [.tup [], .tup [.int 1048576]], .tup [.tup [.int 2], .non], .int 5])))
  refine ix_any (P := fun u => isJ u = false ∧ ok2 _ u ∧ (tupL u).length ≤ 1000) up_same (fun u hu => ?_) h0 (by simpa using h1) fun u hu => fin.of (q u _ l hu.2.1 hu.1 hu.2.2)
  simp only [List.mem_cons, List.mem_nil_iff, or_false] at hu
  simp only [tyS, tyN] at ta1
  simp only [tyS, tyN] at ta2
  rcases hu with rfl | rfl | rfl | rfl | rfl | rfl | rfl | rfl | rfl <;> refine ⟨by first | rfl | decide, okk2 ?_, by simp [tupL]⟩ <;> simp [okk, tyS, tyN, ta1, ta2]
/-! ### _law_bad_parts -/
def sp__law_bad_parts : USp := fun us G Q _ => ∃ i : Int, us = [.int i] ∧ 0 ≤ i ∧ i < 13 ∧ ∀ u G', Le G G' → ok3 G' u → isP u = false → (tupL u).length ≤ 1000 → Q u G'
def cl__law_bad_parts : List (Str × USp) := []
theorem w__law_bad_parts (us : List U) (G : UH) (Q : UK) (E : UXn → UH → Prop) (h : sp__law_bad_parts us G Q E) : trSs (TB cl__law_bad_parts) (GM cl__law_bad_parts) b__law_bad_parts (UD Q E) (startU n__law_bad_parts us) G := by
  obtain ⟨i, rfl, h0, h1, q⟩ := h
  simp only [trSs, trS, trE, trT, trX, pl, trA, trO, trC, trI, uBin_s, uUn_s, uVar_s, uC_s, getS, setS, uOp, uAdd, uSub, uMul, uDiv, uMod, uPow, uNeg, uCmp, uEqF, uLt, uLe, uGt, uGe, uIsF, isNonU, uTru, Blt.fn, uAbs, uMax2, uMin2, uInt, startU, gam_fn, gam_gl, tab_xcs, tab_sub, UD_nx, UD_rt, UD_bk, UD_ct, UD_ex, spAt, glAt, gls, List.map_cons, List.map_nil, List.cons_append, List.nil_append, List.length_cons, List.length_nil, List.replicate, Nat.reduceAdd, Nat.reduceSub, Nat.zero_add, reduceIte, Bool.false_eq_true, Bool.true_eq_false, Bool.false_bne, Bool.true_bne, Bool.not_true, Bool.not_false, Bool.not_not, List.reverse_cons, List.reverse_nil, Option.map_some, Option.map_none, up_same, uSet, atI_zero, atI_one, ixN_20, ixN_zero, List.set_cons_zero, uPow, z_0, z_1, z_2, z_3, z_4, z_5, z_6, z_7, z_8, z_9, z_10, z_11, z_12, z_13, z_14, z_15, z_16, true_and, b__law_bad_parts, n__law_bad_parts, trG]
  intro a1 ha1 a2 ha2 a3 ha3 r1 hr1
  have ea1 := (((Le.new ha2 (o := .lst [.int 1])).trans (.new ha3 (o := .lst [.tup [.int 1], .int 0]))).trans (.new hr1 (o := .lst [.ref a1, .tup [.tup [.tup [.int 1], .int (-1)]], .tup [.tup [.tup [.int 1], .bl true]], .tup [.tup [.ref a2, .int 0]], .tup [.ref a3], .tup [.tup [.tup [.int 1]]], .tup [.tup [.tup [.int 1], .int 0, .int 0]]]))) a1 _ up_same
  have ea2 := ((Le.new ha3 (o := .lst [.tup [.int 1], .int 0])).trans (.new hr1 (o := .lst [.ref a1, .tup [.tup [.tup [.int 1], .int (-1)]], .tup [.tup [.tup [.int 1], .bl true]], .tup [.tup [.ref a2, .int 0]], .tup [.ref a3], .tup [.tup [.tup [.int 1]]], .tup [.tup [.tup [.int 1], .int 0, .int 0]]]))) a2 _ up_same
  have ea3 := (Le.new hr1 (o := .lst [.ref a1, .tup [.tup [.tup [.int 1], .int (-1)]], .tup [.tup [.tup [.int 1], .bl true]], .tup [.tup [.ref a2, .int 0]], .tup [.ref a3], .tup [.tup [.tup [.int 1]]], .tup [.tup [.tup [.int 1], .int 0, .int 0]]])) a3 _ up_same
  have er1 : (UL.up (UL.up (UL.up (UL.up G a1 (.lst [.tup [.tup [.int 1], .int 0]])) a2 (.lst [.int 1])) a3 (.lst [.tup [.int 1], .int 0])) r1 (.lst [.ref a1, .tup [.tup [.tup [.int 1], .int (-1)]], .tup [.tup [.tup [.int 1], .bl true]], .tup [.tup [.ref a2, .int 0]], .tup [.ref a3], .tup [.tup [.tup [.int 1]]], .tup [.tup [.tup [.int 1], .int 0, .int 0]]])) r1 = some (.lst [.ref a1, .tup [.tup [.tup [.int 1], .int (-1)]], .tup [.tup [.tup [.int 1], .bl true]], .tup [.tup [.ref a2, .int 0]], .tup [.ref a3], .tup [.tup [.tup [.int 1]]], .tup [.tup [.tup [.int 1], .int 0, .int 0]]]) := up_same
  have l0 := ((((Le.new ha1 (o := .lst [.tup [.tup [.int 1], .int 0]])).trans (.new ha2 (o := .lst [.int 1]))).trans (.new ha3 (o := .lst [.tup [.int 1], .int 0]))).trans (.new hr1 (o := .lst [.ref a1, .tup [.tup [.tup [.int 1], .int (-1)]], .tup [.tup [.tup [.int 1], .bl true]], .tup [.tup [.ref a2, .int 0]], .tup [.ref a3], .tup [.tup [.tup [.int 1]]], .tup [.tup [.tup [.int 1], .int 0, .int 0]]])))
  have l := l0
  clear l0
  generalize (UL.up (UL.up (UL.up (UL.up G a1 (.lst [.tup [.tup [.int 1], .int 0]])) a2 (.lst [.int 1])) a3 (.lst [.tup [.int 1], .int 0])) r1 (.lst [.ref a1, .tup [.tup [.tup [.int 1], .int (-1)]], .tup [.tup [.tup [.int 1], .bl true]], .tup [.tup [.ref a2, .int 0]], .tup [.ref a3], .tup [.tup [.tup [.int 1]]], .tup [.tup [.tup [.int 1], .int 0, .int 0]]])) = G1 at ea1 ea2 ea3 er1 l ⊢
  simp only [trSs, trS, trE, trT, trX, pl, trA, trO, trC, trI, uBin_s, uUn_s, uVar_s, uC_s, getS, setS, uOp, uAdd, uSub, uMul, uDiv, uMod, uPow, uNeg, uCmp, uEqF, uLt, uLe, uGt, uGe, uIsF, isNonU, uTru, Blt.fn, uAbs, uMax2, uMin2, uInt, startU, gam_fn, gam_gl, tab_xcs, tab_sub, UD_nx, UD_rt, UD_bk, UD_ct, UD_ex, spAt, glAt, gls, List.map_cons, List.map_nil, List.cons_append, List.nil_append, List.length_cons, List.length_nil, List.replicate, Nat.reduceAdd, Nat.reduceSub, Nat.zero_add, reduceIte, Bool.false_eq_true, Bool.true_eq_false, Bool.false_bne, Bool.true_bne, Bool.not_true, Bool.not_false, Bool.not_not, List.reverse_cons, List.reverse_nil, Option.map_some, Option.map_none, up_same, uSet, atI_zero, atI_one, ixN_20, ixN_zero, List.set_cons_zero, uPow, z_0, z_1, z_2, z_3, z_4, z_5, z_6, z_7, z_8, z_9, z_10, z_11, z_12, z_13, z_14, z_15, z_16, true_and, t2__law_bad_parts, trG]
  intro  r2 hr2
  have er2 : (UL.up G1 r2 (.lst [.tup [.tup [.int 0, .tup [.int 1]]], .non, .tup [.tup [.tup [.int 1], .non]], .tup [.tup [.tup [.int 1], .int 2], .tup [.tup [.bl false], .int 1]], .tup [.tup [.int 3], .int 0], .str "a"])) r2 = some (.lst [.tup [.tup [.int 0, .tup [.int 1]]], .non, .tup [.tup [.tup [.int 1], .non]], .tup [.tup [.tup [.int 1], .int 2], .tup [.tup [.bl false], .int 1]], .tup [.tup [.int 3], .int 0], .str "a"]) := up_same
  have l0 := (Le.new hr2 (o := .lst [.tup [.tup [.int 0, .tup [.int 1]]], .non, .tup [.tup [.tup [.int 1], .non]], .tup [.tup [.tup [.int 1], .int 2], .tup [.tup [.bl false], .int 1]], .tup [.tup [.int 3], .int 0], .str "a"]))
  have ea1 := l0 _ _ ea1
  have ea2 := l0 _ _ ea2
  have ea3 := l0 _ _ ea3
  have er1 := l0 _ _ er1
  have l := l.trans l0
  clear l0
  generalize (UL.up G1 r2 (.lst [.tup [.tup [.int 0, .tup [.int 1]]], .non, .tup [.tup [.tup [.int 1], .non]], .tup [.tup [.tup [.int 1], .int 2], .tup [.tup [.bl false], .int 1]], .tup [.tup [.int 3], .int 0], .str "a"])) = G2 at er2 ea1 ea2 ea3 er1 l ⊢
  simp only [trSs, trS, trE, trT, trX, pl, trA, trO, trC, trI, uBin_s, uUn_s, uVar_s, uC_s, getS, setS, uOp, uAdd, uSub, uMul, uDiv, uMod, uPow, uNeg, uCmp, uEqF, uLt, uLe, uGt, uGe, uIsF, isNonU, uTru, Blt.fn, uAbs, uMax2, uMin2, uInt, startU, gam_fn, gam_gl, tab_xcs, tab_sub, UD_nx, UD_rt, UD_bk, UD_ct, UD_ex, spAt, glAt, gls, List.map_cons, List.map_nil, List.cons_append, List.nil_append, List.length_cons, List.length_nil, List.replicate, Nat.reduceAdd, Nat.reduceSub, Nat.zero_add, reduceIte, Bool.false_eq_true, Bool.true_eq_false, Bool.false_bne, Bool.true_bne, Bool.not_true, Bool.not_false, Bool.not_not, List.reverse_cons, List.reverse_nil, Option.map_some, Option.map_none, up_same, uSet, atI_zero, atI_one, ixN_20, ixN_zero, List.set_cons_zero, uPow, z_0, z_1, z_2, z_3, z_4, z_5, z_6, z_7, z_8, z_9, z_10, z_11, z_12, z_13, z_14, z_15, z_16, true_and, er1, er2]
  intro  r3 hr3
  have er3 : (UL.up G2 r3 (.lst [.ref a1, .tup [.tup [.tup [.int 1], .int (-1)]], .tup [.tup [.tup [.int 1], .bl true]], .tup [.tup [.ref a2, .int 0]], .tup [.ref a3], .tup [.tup [.tup [.int 1]]], .tup [.tup [.tup [.int 1], .int 0, .int 0]], .tup [.tup [.int 0, .tup [.int 1]]], .non, .tup [.tup [.tup [.int 1], .non]], .tup [.tup [.tup [.int 1], .int 2], .tup [.tup [.bl false], .int 1]], .tup [.tup [.int 3], .int 0], .str "a"])) r3 = some (.lst [.ref a1, .tup [.tup [.tup [.int 1], .int (-1)]], .tup [.tup [.tup [.int 1], .bl true]], .tup [.tup [.ref a2, .int 0]], .tup [.ref a3], .tup [.tup [.tup [.int 1]]], .tup [.tup [.tup [.int 1], .int 0, .int 0]], .tup [.tup [.int 0, .tup [.int 1]]], .non, .tup [.tup [.tup [.int 1], .non]], .tup [.tup [.tup [.int 1], .int 2], .tup [.tup [.bl false], .int 1]], .tup [.tup [.int 3], .int 0], .str "a"]) := up_same
  have l0 := (Le.new hr3 (o := .lst [.ref a1, .tup [.tup [.tup [.int 1], .int (-1)]], .tup [.tup [.tup [.int 1], .bl true]], .tup [.tup [.ref a2, .int 0]], .tup [.ref a3], .tup [.tup [.tup [.int 1]]], .tup [.tup [.tup [.int 1], .int 0, .int 0]], .tup [.tup [.int 0, .tup [.int 1]]], .non, .tup [.tup [.tup [.int 1], .non]], .tup [.tup [.tup [.int 1], .int 2], .tup [.tup [.bl false], .int 1]], .tup [.tup [.int 3], .int 0], .str "a"]))
  have er2 := l0 _ _ er2
  have ea1 := l0 _ _ ea1
  have ea2 := l0 _ _ ea2
  have ea3 := l0 _ _ ea3
  have er1 := l0 _ _ er1
  have l := l.trans l0
  clear l0
  generalize (UL.up G2 r3 (.lst [.ref a1, .tup [.tup [.tup [.int 1], .int (-1)]], .tup [.tup [.tup [.int 1], .bl true]], .tup [.tup [.ref a2, .int 0]], .tup [.ref a3], .tup [.tup [.tup [.int 1]]], .tup [.tup [.tup [.int 1], .int 0, .int 0]], .tup [.tup [.int 0, .tup [.int 1]]], .non, .tup [.tup [.tup [.int 1], .non]], .tup [.tup [.tup [.int 1], .int 2], .tup [.tup [.bl false], .int 1]], .tup [.tup [.int 3], .int 0], .str "a"])) = G3 at er3 er2 ea1 ea2 ea3 er1 l ⊢
  simp only [trSs, trS, trE, trT, trX, pl, trA, trO, trC, trI, uBin_s, uUn_s, uVar_s, uC_s, getS, setS, uOp, uAdd, uSub, uMul, uDiv, uMod, uPow, uNeg, uCmp, uEqF, uLt, uLe, uGt, uGe, uIsF, isNonU, uTru, Blt.fn, uAbs, uMax2, uMin2, uInt, startU, gam_fn, gam_gl, tab_xcs, tab_sub, UD_nx, UD_rt, UD_bk, UD_ct, UD_ex, spAt, glAt, gls, List.map_cons, List.map_nil, List.cons_append, List.nil_append, List.length_cons, List.length_nil, List.replicate, Nat.reduceAdd, Nat.reduceSub, Nat.zero_add, reduceIte, Bool.false_eq_true, Bool.true_eq_false, Bool.false_bne, Bool.true_bne, Bool.not_true, Bool.not_false, Bool.not_not, List.reverse_cons, List.reverse_nil, Option.map_some, Option.map_none, up_same, uSet, atI_zero, atI_one, ixN_20, ixN_zero, List.set_cons_zero, uPow, z_0, z_1, z_2, z_3, z_4, z_5, z_6, z_7, z_8, z_9, z_10, z_11, z_12, z_13, z_14, z_15, z_16, true_and, t1__law_bad_parts]
  refine ix_any (P := fun u => isP u = false ∧ ok3 G3 u ∧ (tupL u).length ≤ 1000) er3 (fun u hu => ?_) h0 (by simpa using h1) fun u hu => fin.of (q u _ l hu.2.1 hu.1 hu.2.2)
  have ta1 := ty_ref ea1
  have ta2 := ty_ref ea2
  have ta3 := ty_ref ea3
  simp only [List.mem_cons, List.mem_nil_iff, or_false] at hu
  simp only [tyS, tyN] at ta1
  simp only [tyS, tyN] at ta2
  simp only [tyS, tyN] at ta3
  rcases hu with rfl | rfl | rfl | rfl | rfl | rfl | rfl | rfl | rfl | rfl | rfl | rfl | rfl <;> refine ⟨by first | rfl | decide, okk3 ?_, by simp [tupL]⟩ <;> simp [okk, tyS, tyN, ta1, ta2, ta3]
/-! ### _law_bad_points -/
def sp__law_bad_points : USp := fun us G Q _ => ∃ i : Int, us = [.int i] ∧ 0 ≤ i ∧ i < 15 ∧ ∀ u G', Le G G' → ok2 G' u → isPts u = false → Q u G'
def cl__law_bad_points : List (Str × USp) := []
theorem w__law_bad_points (us : List U) (G : UH) (Q : UK) (E : UXn → UH → Prop) (h : sp__law_bad_points us G Q E) : trSs (TB cl__law_bad_points) (GM cl__law_bad_points) b__law_bad_points (UD Q E) (startU n__law_bad_points us) G := by
  obtain ⟨i, rfl, h0, h1, q⟩ := h
  simp only [trSs, trS, trE, trT, trX, pl, trA, trO, trC, trI, uBin_s, uUn_s, uVar_s, uC_s, getS, setS, uOp, uAdd, uSub, uMul, uDiv, uMod, uPow, uNeg, uCmp, uEqF, uLt, uLe, uGt, uGe, uIsF, isNonU, uTru, Blt.fn, uAbs, uMax2, uMin2, uInt, startU, gam_fn, gam_gl, tab_xcs, tab_sub, UD_nx, UD_rt, UD_bk, UD_ct, UD_ex, spAt, glAt, gls, List.map_cons, List.map_nil, List.cons_append, List.nil_append, List.length_cons, List.length_nil, List.replicate, Nat.reduceAdd, Nat.reduceSub, Nat.zero_add, reduceIte, Bool.false_eq_true, Bool.true_eq_false, Bool.false_bne, Bool.true_bne, Bool.not_true, Bool.not_false, Bool.not_not, List.reverse_cons, List.reverse_nil, Option.map_some, Option.map_none, up_same, uSet, atI_zero, atI_one, ixN_20, ixN_zero, List.set_cons_zero, uPow, z_0, z_1, z_2, z_3, z_4, z_5, z_6, z_7, z_8, z_9, z_10, z_11, z_12, z_13, z_14, z_15, z_16, true_and, b__law_bad_points, n__law_bad_points, trG]
  intro a1 ha1 r1 hr1
  have ea1 := (Le.new hr1 (o := .lst [.tup [], .ref a1, .tup [.tup [.int 0, .int 1], .tup [.int 0, .int 2]], .tup [.tup [.int 1, .int 0], .tup [.int 0, .int 0]], .tup [.tup [.bl true, .int 0]], .tup [.tup [.int 0, .bl true]], .tup [.tup [.int 0]], .tup [.tup [.int 0, .int 1, .int 2]]])) a1 _ up_same
  have er1 : (UL.up (UL.up G a1 (.lst [.tup [.int 0, .int 1]])) r1 (.lst [.tup [], .ref a1, .tup [.tup [.int 0, .int 1], .tup [.int 0, .int 2]], .tup [.tup [.int 1, .int 0], .tup [.int 0, .int 0]], .tup [.tup [.bl true, .int 0]], .tup [.tup [.int 0, .bl true]], .tup [.tup [.int 0]], .tup [.tup [.int 0, .int 1, .int 2]]])) r1 = some (.lst [.tup [], .ref a1, .tup [.tup [.int 0, .int 1], .tup [.int 0, .int 2]], .tup [.tup [.int 1, .int 0], .tup [.int 0, .int 0]], .tup [.tup [.bl true, .int 0]], .tup [.tup [.int 0, .bl true]], .tup [.tup [.int 0]], .tup [.tup [.int 0, .int 1, .int 2]]]) := up_same
  have l0 := ((Le.new ha1 (o := .lst [.tup [.int 0, .int 1]])).trans (.new hr1 (o := .lst [.tup [], .ref a1, .tup [.tup [.int 0, .int 1], .tup [.int 0, .int 2]], .tup [.tup [.int 1, .int 0], .tup [.int 0, .int 0]], .tup [.tup [.bl true, .int 0]], .tup [.tup [.int 0, .bl true]], .tup [.tup [.int 0]], .tup [.tup [.int 0, .int 1, .int 2]]])))
  have l := l0
  clear l0
  generalize (UL.up (UL.up G a1 (.lst [.tup [.int 0, .int 1]])) r1 (.lst [.tup [], .ref a1, .tup [.tup [.int 0, .int 1], .tup [.int 0, .int 2]], .tup [.tup [.int 1, .int 0], .tup [.int 0, .int 0]], .tup [.tup [.bl true, .int 0]], .tup [.tup [.int 0, .bl true]], .tup [.tup [.int 0]], .tup [.tup [.int 0, .int 1, .int 2]]])) = G1 at ea1 er1 l ⊢
  simp only [trSs, trS, trE, trT, trX, pl, trA, trO, trC, trI, uBin_s, uUn_s, uVar_s, uC_s, getS, setS, uOp, uAdd, uSub, uMul, uDiv, uMod, uPow, uNeg, uCmp, uEqF, uLt, uLe, uGt, uGe, uIsF, isNonU, uTru, Blt.fn, uAbs, uMax2, uMin2, uInt, startU, gam_fn, gam_gl, tab_xcs, tab_sub, UD_nx, UD_rt, UD_bk, UD_ct, UD_ex, spAt, glAt, gls, List.map_cons, List.map_nil, List.cons_append, List.nil_append, List.length_cons, List.length_nil, List.replicate, Nat.reduceAdd, Nat.reduceSub, Nat.zero_add, reduceIte, Bool.false_eq_true, Bool.true_eq_false, Bool.false_bne, Bool.true_bne, Bool.not_true, Bool.not_false, Bool.not_not, List.reverse_cons, List.reverse_nil, Option.map_some, Option.map_none, up_same, uSet, atI_zero, atI_one, ixN_20, ixN_zero, List.set_cons_zero, uPow, z_0, z_1, z_2, z_3, z_4, z_5, z_6, z_7, z_8, z_9, z_10, z_11, z_12, z_13, z_14, z_15, z_16, true_and, t2__law_bad_points, trG]
  intro a2 ha2 r2 hr2
  have ea2 := (Le.new hr2 (o := .lst [.tup [.tup [.int 0, .int 1048576]], .tup [.tup [.int (-1048576), .int 0]], .non, .tup [.ref a2], .tup [.tup [.int 0, .str "1"]], .int 4, .tup [.tup [.int 0, .int 0], .tup [.int 2, .int 0], .tup [.int 1, .int 0]]])) a2 _ up_same
  have er2 : (UL.up (UL.up G1 a2 (.lst [.int 0, .int 1])) r2 (.lst [.tup [.tup [.int 0, .int 1048576]], .tup [.tup [.int (-1048576), .int 0]], .non, .tup [.ref a2], .tup [.tup [.int 0, .str "1"]], .int 4, .tup [.tup [.int 0, .int 0], .tup [.int 2, .int 0], .tup [.int 1, .int 0]]])) r2 = some (.lst [.tup [.tup [.int 0, .int 1048576]], .tup [.tup [.int (-1048576), .int 0]], .non, .tup [.ref a2], .tup [.tup [.int 0, .str "1"]], .int 4, .tup [.tup [.int 0, .int 0], .tup [.int 2, .int 0], .tup [.int 1, .int 0]]]) := up_same
  have l0 := ((Le.new ha2 (o := .lst [.int 0, .int 1])).trans (.new hr2 (o := .lst [.tup [.tup [.int 0, .int 1048576]], .tup [.tup [.int (-1048576), .int 0]], .non, .tup [.ref a2], .tup [.tup [.int 0, .str "1"]], .int 4, .tup [.tup [.int 0, .int 0], .tup [.int 2, .int 0], .tup [.int 1, .int 0]]])))
  have ea1 := l0 _ _ ea1
  have er1 := l0 _ _ er1
  have l := l.trans l0
  clear l0
  generalize (UL.up (UL.up G1 a2 (.lst [.int 0, .int 1])) r2 (.lst [.tup [.tup [.int 0, .int 1048576]], .tup [.tup [.int (-1048576), .int 0]], .non, .tup [.ref a2], .tup [.tup [.int 0, .str "1"]], .int 4, .tup [.tup [.int 0, .int 0], .tup [.int 2, .int 0], .tup [.int 1, .int 0]]])) = G2 at ea2 er2 ea1 er1 l ⊢
  simp only [trSs, trS, trE, trT, trX, pl, trA, trO, trC, trI, uBin_s, uUn_s, uVar_s, uC_s, getS, setS, uOp, uAdd, uSub, uMul, uDiv, uMod, uPow, uNeg, uCmp, uEqF, uLt, uLe, uGt, uGe, uIsF, isNonU, uTru, Blt.fn, uAbs, uMax2, uMin2, uInt, startU, gam_fn, gam_gl, tab_xcs, tab_sub, UD_nx, UD_rt, UD_bk, UD_ct, UD_ex, spAt, glAt, gls, List.map_cons, List.map_nil, List.cons_append, List.nil_append, List.length_cons, List.length_nil, List.replicate, Nat.reduceAdd, Nat.reduceSub, Nat.zero_add, reduceIte, Bool.false_eq_true, Bool.true_eq_false, Bool.false_bne, Bool.true_bne, Bool.not_true, Bool.not_false, Bool.not_not, List.reverse_cons, List.reverse_nil, Option.map_some, Option.map_none, up_same, uSet, atI_zero, atI_one, ixN_20, ixN_zero, List.set_cons_zero, uPow, z_0, z_1, z_2, z_3, z_4, z_5, z_6, z_7, z_8, z_9, z_10, z_11, z_12, z_13, z_14, z_15, z_16, true_and, er1, er2]
  intro  r3 hr3
  have er3 : (UL.up G2 r3 (.lst [.tup [], .ref a1, .tup [.tup [.int 0, .int 1], .tup [.int 0, .int 2]], .tup [.tup [.int 1, .int 0], .tup [.int 0, .int 0]], .tup [.tup [.bl true, .int 0]], .tup [.tup [.int 0, .bl true]], .tup [.tup [.int 0]], .tup [.tup [.int 0, .int 1, .int 2]], .tup [.tup [.int 0, .int 1048576]], .tup [.tup [.int (-1048576), .int 0]], .non, .tup [.ref a2], .tup [.tup [.int 0, .str "1"]], .int 4, .tup [.tup [.int 0, .int 0], .tup [.int 2, .int 0], .tup [.int 1, .int 0]]])) r3 = some (.lst [.tup [], .ref a1, .tup [.tup [.int 0, .int 1], .tup [.int 0, .int 2]], .tup [.tup [.int 1, .int 0], .tup [.int 0, .int 0]], .tup [.tup [.bl true, .int 0]], .tup [.tup [.int 0, .bl true]], .tup [.tup [.int 0]], .tup [.tup [.int 0, .int 1, .int 2]], .tup [.tup [.int 0, .int 1048576]], .tup [.tup [.int (-1048576), .int 0]], .non, .tup [.ref a2], .tup [.tup [.int 0, .str "1"]], .int 4, .tup [.tup [.int 0, .int 0], .tup [.int 2, .int 0], .tup [.int 1, .int 0]]]) := up_same
  have l0 := (Le.new hr3 (o := .lst [.tup [], .ref a1, .tup [.tup [.int 0, .int 1], .tup [.int 0, .int 2]], .tup [.tup [.int 1, .int 0], .tup [.int 0, .int 0]], .tup [.tup [.bl true, .int 0]], .tup [.tup [.int 0, .bl true]], .tup [.tup [.int 0]], .tup [.tup [.int 0, .int 1, .int 2]], .tup [.tup [.int 0, .int 1048576]], .tup [.tup [.int (-1048576), .int 0]], .non, .tup [.ref a2], .tup [.tup [.int 0, .str "1"]], .int 4, .tup [.tup [.int 0, .int 0], .tup [.int 2, .int 0], .tup [.int 1, .int 0]]]))
  have ea2 := l0 _ _ ea2
  have er2 := l0 _ _ er2
  have ea1 := l0 _ _ ea1
  have er1 := l0 _ _ er1
  have l := l.trans l0
  clear l0
  generalize (UL.up G2 r3 (.lst [.tup [], .ref a1, .tup [.tup [.int 0, .int 1], .tup [.int 0, .int 2]], .tup [.tup [.int 1, .int 0], .tup [.int 0, .int 0]], .tup [.tup [.bl true, .int 0]], .tup [.tup [.int 0, .bl true]], .tup [.tup [.int 0]], .tup [.tup [.int 0, .int 1, .int 2]], .tup [.tup [.int 0, .int 1048576]], .tup [.tup [.int (-1048576), .int 0]], .non, .tup [.ref a2], .tup [.tup [.int 0, .str "1"]], .int 4, .tup [.tup [.int 0, .int 0], .tup [.int 2, .int 0], .tup [.int 1, .int 0]]])) = G3 at er3 ea2 er2 ea1 er1 l ⊢
  simp only [trSs, trS, trE, trT, trX, pl, trA, trO, trC, trI, uBin_s, uUn_s, uVar_s, uC_s, getS, setS, uOp, uAdd, uSub, uMul, uDiv, uMod, uPow, uNeg, uCmp, uEqF, uLt, uLe, uGt, uGe, uIsF, isNonU, uTru, Blt.fn, uAbs, uMax2, uMin2, uInt, startU, gam_fn, gam_gl, tab_xcs, tab_sub, UD_nx, UD_rt, UD_bk, UD_ct, UD_ex, spAt, glAt, gls, List.map_cons, List.map_nil, List.cons_append, List.nil_append, List.length_cons, List.length_nil, List.replicate, Nat.reduceAdd, Nat.reduceSub, Nat.zero_add, reduceIte, Bool.false_eq_true, Bool.true_eq_false, Bool.false_bne, Bool.true_bne, Bool.not_true, Bool.not_false, Bool.not_not, List.reverse_cons, List.reverse_nil, Option.map_some, Option.map_none, up_same, uSet, atI_zero, atI_one, ixN_20, ixN_zero, List.set_cons_zero, uPow, z_0, z_1, z_2, z_3, z_4, z_5, z_6, z_7, z_8, z_9, z_10, z_11, z_12, z_13, z_14, z_15, z_16, true_and, t1__law_bad_points]
  refine ix_any (P := fun u => isPts u = false ∧ ok2 G3 u) er3 (fun u hu => ?_) h0 (by simpa using h1) fun u hu => fin.of (q u _ l hu.2 hu.1)
  have ta1 := ty_ref ea1
  have ta2 := ty_ref ea2
  simp only [List.mem_cons, List.mem_nil_iff, or_false] at hu
  simp only [tyS, tyN] at ta1
  simp only [tyS, tyN] at ta2
  rcases hu with rfl | rfl | rfl | rfl | rfl | rfl | rfl | rfl | rfl | rfl | rfl | rfl | rfl | rfl | rfl <;> refine ⟨by first | rfl | decide, okk2 ?_⟩ <;> simp [okk, tyS, tyN, ta1, ta2]
end K79
set_option Elab.async false
set_option linter.all false
set_option autoImplicit false
set_option maxRecDepth 100000
set_option maxHeartbeats 4000000
namespace K79
open PySem PySem.Spec L2 UL
/-! ### _law_bad_cut -/
def sp__law_bad_cut : USp := fun us G Q _ => ∃ (p g : Addr) (ns : List Int), us = [.ref p, sndU ns] ∧ Pur G p g ∧ Wd1 ns ∧ ns.length ≤ 90 ∧ ∀ dd w G', BadD G' dd w → Pur G' p g → Fr p g G G' → Q (.tup [dd, .str w]) G'
def cl__law_bad_cut : List (Str × USp) := [("_law_pick", sp__law_pick), ("_law_bad_sound", sp__law_bad_sound)]
theorem cutW_s {s lo hi : U} (h : isS s = false) : cutW s lo hi = some "sound" := by
  unfold cutW
  rw [h]
  rfl
theorem cutW_l {s lo hi : U} (h : isS s = true) (h2 : isN lo = false) : cutW s lo hi = some "low" := by
  unfold cutW
  rw [h, h2]
  rfl
theorem cutW_h {s lo hi : U} (h : isS s = true) (h2 : isN lo = true) (h3 : (isN hi && highB (intV lo) (intV hi) (tupL s).length) = false) : cutW s lo hi = some "high" := by
  unfold cutW
  rw [h, h2, h3]
  rfl
theorem snd_len (ns : List Int) : ((tupL (sndU ns)).length : Int) = ns.length := by
  show ((ns.map U.int).length : Int) = _
  rw [List.length_map]
theorem bad_hi {low n : Int} {u : U} (h : ∀ i, u = .int i → i < 0 ∨ i < low ∨ n < i) : (isN u && highB low (intV u) n) = false := by
  cases u with
  | int i =>
    rcases h i rfl with c | c
    · rw [show isN (.int i) = false from decide_eq_false (by omega), Bool.false_and]
    · rw [show highB low (intV (.int i)) n = false from highB_f c, Bool.and_false]
  | _ => rfl
theorem w__law_bad_cut (us : List U) (G : UH) (Q : UK) (E : UXn → UH → Prop) (h : sp__law_bad_cut us G Q E) : trSs (TB cl__law_bad_cut) (GM cl__law_bad_cut) b__law_bad_cut (UD Q E) (startU n__law_bad_cut us) G := by
  obtain ⟨p, g, ns, rfl, hP, hW, hl, q⟩ := h
  have lg := line_ge
  have hS : isS (sndU ns) = true := W_ints hW
  have p30 : (10 : Int) ^ Int.toNat 30 = 1000000000000000000000000000000 := by decide
  simp only [trSs, trS, trE, trT, trX, pl, trA, trO, trC, trI, uBin_s, uUn_s, uVar_s, uC_s, getS, setS, uOp, uAdd, uSub, uMul, uDiv, uMod, uPow, uNeg, uCmp, uEqF, uLt, uLe, uGt, uGe, uIsF, isNonU, uTru, Blt.fn, uAbs, uMax2, uMin2, uInt, startU, gam_fn, gam_gl, tab_xcs, tab_sub, UD_nx, UD_rt, UD_bk, UD_ct, UD_ex, spAt, glAt, gls, List.map_cons, List.map_nil, List.cons_append, List.nil_append, List.length_cons, List.length_nil, List.replicate, Nat.reduceAdd, Nat.reduceSub, Nat.zero_add, reduceIte, Bool.false_eq_true, Bool.true_eq_false, Bool.false_bne, Bool.true_bne, Bool.not_true, Bool.not_false, Bool.not_not, List.reverse_cons, List.reverse_nil, Option.map_some, Option.map_none, up_same, uSet, atI_zero, atI_one, ixN_20, ixN_zero, List.set_cons_zero, uPow, b__law_bad_cut, n__law_bad_cut, trG, cl__law_bad_cut, uLen, List.length_map]
  refine ⟨p, g, _, rfl, hP, by omega, by omega, fun low G1 low0 low1 hP1 f1 => ?_⟩
  simp only [trSs, trS, trE, trT, trX, pl, trA, trO, trC, trI, uBin_s, uUn_s, uVar_s, uC_s, getS, setS, uOp, uAdd, uSub, uMul, uDiv, uMod, uPow, uNeg, uCmp, uEqF, uLt, uLe, uGt, uGe, uIsF, isNonU, uTru, Blt.fn, uAbs, uMax2, uMin2, uInt, startU, gam_fn, gam_gl, tab_xcs, tab_sub, UD_nx, UD_rt, UD_bk, UD_ct, UD_ex, spAt, glAt, gls, List.map_cons, List.map_nil, List.cons_append, List.nil_append, List.length_cons, List.length_nil, List.replicate, Nat.reduceAdd, Nat.reduceSub, Nat.zero_add, reduceIte, Bool.false_eq_true, Bool.true_eq_false, Bool.false_bne, Bool.true_bne, Bool.not_true, Bool.not_false, Bool.not_not, List.reverse_cons, List.reverse_nil, Option.map_some, Option.map_none, up_same, uSet, atI_zero, atI_one, ixN_20, ixN_zero, List.set_cons_zero, uPow, z_0, z_1, z_2, z_3, z_4, z_5, z_6, z_7, z_8, z_9, z_10, z_11, z_12, z_13, z_14, z_15, z_16, true_and, t10__law_bad_cut, trG]
  refine ⟨⟨by decide, by decide, by decide⟩, fun r1 hr1 => ?_⟩
  have n1 := hP1.ne hr1
  have e1 : UL.up G1 r1 (.lst [.int (-1), .bl true, .non, .str "0", .tup [.int 0], .bl false, .int (-10 ^ Int.toNat 30)]) r1 = some (.lst [.int (-1), .bl true, .non, .str "0", .tup [.int 0], .bl false, .int (-10 ^ Int.toNat 30)]) := up_same
  have hP2 := hP1.upf hr1 (o := .lst [.int (-1), .bl true, .non, .str "0", .tup [.int 0], .bl false, .int (-10 ^ Int.toNat 30)])
  have f2 := f1.trans (Fr.of_le (.new hr1 (o := .lst [.int (-1), .bl true, .non, .str "0", .tup [.int 0], .bl false, .int (-10 ^ Int.toNat 30)])))
  generalize UL.up G1 r1 _ = G2 at e1 hP2 f2 ⊢
  simp only [trSs, trS, trE, trT, trX, pl, trA, trO, trC, trI, uBin_s, uUn_s, uVar_s, uC_s, getS, setS, uOp, uAdd, uSub, uMul, uDiv, uMod, uPow, uNeg, uCmp, uEqF, uLt, uLe, uGt, uGe, uIsF, isNonU, uTru, Blt.fn, uAbs, uMax2, uMin2, uInt, startU, gam_fn, gam_gl, tab_xcs, tab_sub, UD_nx, UD_rt, UD_bk, UD_ct, UD_ex, spAt, glAt, gls, List.map_cons, List.map_nil, List.cons_append, List.nil_append, List.length_cons, List.length_nil, List.replicate, Nat.reduceAdd, Nat.reduceSub, Nat.zero_add, reduceIte, Bool.false_eq_true, Bool.true_eq_false, Bool.false_bne, Bool.true_bne, Bool.not_true, Bool.not_false, Bool.not_not, List.reverse_cons, List.reverse_nil, Option.map_some, Option.map_none, up_same, uSet, atI_zero, atI_one, ixN_20, ixN_zero, List.set_cons_zero, uPow, z_0, z_1, z_2, z_3, z_4, z_5, z_6, z_7, z_8, z_9, z_10, z_11, z_12, z_13, z_14, z_15, z_16, true_and, t9__law_bad_cut, trG, uLen, List.length_map]
  refine ⟨⟨by decide, by decide, by decide⟩, fun r2 hr2 => ?_⟩
  have n2 := hP2.ne hr2
  have e2 : UL.up G2 r2 (.lst [.int (low - 1), .int ((ns.length : Int) + 1), .bl true, .non, .str "1", .tup [.int low], .int ((ns.length : Int) + 10 ^ Int.toNat 30), .int (-1), .bl false]) r2 = some (.lst [.int (low - 1), .int ((ns.length : Int) + 1), .bl true, .non, .str "1", .tup [.int low], .int ((ns.length : Int) + 10 ^ Int.toNat 30), .int (-1), .bl false]) := up_same
  have hP3 := hP2.upf hr2 (o := .lst [.int (low - 1), .int ((ns.length : Int) + 1), .bl true, .non, .str "1", .tup [.int low], .int ((ns.length : Int) + 10 ^ Int.toNat 30), .int (-1), .bl false])
  have l3 := Le.new hr2 (o := .lst [.int (low - 1), .int ((ns.length : Int) + 1), .bl true, .non, .str "1", .tup [.int low], .int ((ns.length : Int) + 10 ^ Int.toNat 30), .int (-1), .bl false])
  have f3 := f2.trans (Fr.of_le l3)
  have e1 := l3 _ _ e1
  generalize UL.up G2 r2 _ = G3 at e1 e2 hP3 f3 ⊢
  clear l3
  simp only [trSs, trS, trE, trT, trX, pl, trA, trO, trC, trI, uBin_s, uUn_s, uVar_s, uC_s, getS, setS, uOp, uAdd, uSub, uMul, uDiv, uMod, uPow, uNeg, uCmp, uEqF, uLt, uLe, uGt, uGe, uIsF, isNonU, uTru, Blt.fn, uAbs, uMax2, uMin2, uInt, startU, gam_fn, gam_gl, tab_xcs, tab_sub, UD_nx, UD_rt, UD_bk, UD_ct, UD_ex, spAt, glAt, gls, List.map_cons, List.map_nil, List.cons_append, List.nil_append, List.length_cons, List.length_nil, List.replicate, Nat.reduceAdd, Nat.reduceSub, Nat.zero_add, reduceIte, Bool.false_eq_true, Bool.true_eq_false, Bool.false_bne, Bool.true_bne, Bool.not_true, Bool.not_false, Bool.not_not, List.reverse_cons, List.reverse_nil, Option.map_some, Option.map_none, up_same, uSet, atI_zero, atI_one, ixN_20, ixN_zero, List.set_cons_zero, uPow, t8__law_bad_cut, trG, cl__law_bad_cut]
  refine ⟨p, g, 9, rfl, hP3, by decide, by decide, fun c1 G4 c10 c11 hP4 f4 => ?_⟩
  have e1 := f4 _ _ n1.1.symm n1.2.symm e1
  have e2 := f4 _ _ n2.1.symm n2.2.symm e2
  refine ix_any (P := fun u => (isN u && highB low (intV u) ((tupL (sndU ns)).length : Int)) = false ∧ ∀ G, tyS G u) e2 (fun u hu => ?_) c10 (by simpa using c11) fun high hhigh => ?_
  · simp only [List.mem_cons, List.mem_nil_iff, or_false] at hu
    rw [snd_len]
    rcases hu with rfl | rfl | rfl | rfl | rfl | rfl | rfl | rfl | rfl <;> refine ⟨bad_hi fun i hi => ?_, fun _ => rfl⟩ <;> cases hi <;> omega
  simp only [trSs, trS, trE, trT, trX, pl, trA, trO, trC, trI, uBin_s, uUn_s, uVar_s, uC_s, getS, setS, uOp, uAdd, uSub, uMul, uDiv, uMod, uPow, uNeg, uCmp, uEqF, uLt, uLe, uGt, uGe, uIsF, isNonU, uTru, Blt.fn, uAbs, uMax2, uMin2, uInt, startU, gam_fn, gam_gl, tab_xcs, tab_sub, UD_nx, UD_rt, UD_bk, UD_ct, UD_ex, spAt, glAt, gls, List.map_cons, List.map_nil, List.cons_append, List.nil_append, List.length_cons, List.length_nil, List.replicate, Nat.reduceAdd, Nat.reduceSub, Nat.zero_add, reduceIte, Bool.false_eq_true, Bool.true_eq_false, Bool.false_bne, Bool.true_bne, Bool.not_true, Bool.not_false, Bool.not_not, List.reverse_cons, List.reverse_nil, Option.map_some, Option.map_none, up_same, uSet, atI_zero, atI_one, ixN_20, ixN_zero, List.set_cons_zero, uPow, t7__law_bad_cut, trG, cl__law_bad_cut]
  refine ⟨p, g, 6, rfl, hP4, by decide, by decide, fun wh G5 w0 w1 hP5 f5 => ?_⟩
  have e1 := f5 _ _ n1.1.symm n1.2.symm e1
  have f35 := (f3.trans f4).trans f5
  -- a low one that is none
  have lows : ∀ (G6 : UH) (c : Int), 0 ≤ c → c < 7 → G6 r1 = some (.lst [.int (-1), .bl true, .non, .str "0", .tup [.int 0], .bl false, .int (-10 ^ Int.toNat 30)]) → ∀ {K : UK}, (∀ u, isN u = false ∧ (∀ G, tyS G u) → K u G6) → uIx (.ref r1) (.int c) G6 K := by
    intro G6 c c0 c1 e K k
    refine ix_any (P := fun u => isN u = false ∧ ∀ G, tyS G u) e (fun u hu => ?_) c0 (by simpa using c1) k
    simp only [List.mem_cons, List.mem_nil_iff, or_false] at hu
    rcases hu with rfl | rfl | rfl | rfl | rfl | rfl | rfl <;> refine ⟨?_, fun _ => rfl⟩ <;> first | rfl | exact decide_eq_false (by omega)
  have d : wh = 0 ∨ wh = 1 ∨ wh = 2 ∨ wh = 3 ∨ wh = 4 ∨ wh = 5 := by omega
  rcases d with rfl | rfl | rfl | rfl | rfl | rfl
  · simp only [trSs, trS, trE, trT, trX, pl, trA, trO, trC, trI, uBin_s, uUn_s, uVar_s, uC_s, getS, setS, uOp, uAdd, uSub, uMul, uDiv, uMod, uPow, uNeg, uCmp, uEqF, uLt, uLe, uGt, uGe, uIsF, isNonU, uTru, Blt.fn, uAbs, uMax2, uMin2, uInt, startU, gam_fn, gam_gl, tab_xcs, tab_sub, UD_nx, UD_rt, UD_bk, UD_ct, UD_ex, spAt, glAt, gls, List.map_cons, List.map_nil, List.cons_append, List.nil_append, List.length_cons, List.length_nil, List.replicate, Nat.reduceAdd, Nat.reduceSub, Nat.zero_add, reduceIte, Bool.false_eq_true, Bool.true_eq_false, Bool.false_bne, Bool.true_bne, Bool.not_true, Bool.not_false, Bool.not_not, List.reverse_cons, List.reverse_nil, Option.map_some, Option.map_none, up_same, uSet, atI_zero, atI_one, ixN_20, ixN_zero, List.set_cons_zero, uPow, z_0, z_1, z_2, z_3, z_4, z_5, z_6, z_7, z_8, z_9, z_10, z_11, z_12, z_13, z_14, z_15, z_16, true_and, t6__law_bad_cut, decide_true, cl__law_bad_cut]
    refine ⟨p, g, 11, rfl, hP5, by decide, by decide, fun c G6 c0 c1 hP6 f6 => ?_⟩
    refine ⟨c, rfl, c0, c1, fun u G7 l7 ok hu => fin.of ?_⟩
    exact q _ _ _ (.inl ⟨u, _, _, rfl, ok, rfl, rfl, cutW_s hu⟩) (hP6.le l7) ((f35.trans f6).trans (Fr.of_le l7))
  · simp only [trSs, trS, trE, trT, trX, pl, trA, trO, trC, trI, uBin_s, uUn_s, uVar_s, uC_s, getS, setS, uOp, uAdd, uSub, uMul, uDiv, uMod, uPow, uNeg, uCmp, uEqF, uLt, uLe, uGt, uGe, uIsF, isNonU, uTru, Blt.fn, uAbs, uMax2, uMin2, uInt, startU, gam_fn, gam_gl, tab_xcs, tab_sub, UD_nx, UD_rt, UD_bk, UD_ct, UD_ex, spAt, glAt, gls, List.map_cons, List.map_nil, List.cons_append, List.nil_append, List.length_cons, List.length_nil, List.replicate, Nat.reduceAdd, Nat.reduceSub, Nat.zero_add, reduceIte, Bool.false_eq_true, Bool.true_eq_false, Bool.false_bne, Bool.true_bne, Bool.not_true, Bool.not_false, Bool.not_not, List.reverse_cons, List.reverse_nil, Option.map_some, Option.map_none, up_same, uSet, atI_zero, atI_one, ixN_20, ixN_zero, List.set_cons_zero, uPow, z_0, z_1, z_2, z_3, z_4, z_5, z_6, z_7, z_8, z_9, z_10, z_11, z_12, z_13, z_14, z_15, z_16, true_and, t6__law_bad_cut, show decide ((1 : Int) = 0) = false from rfl, t5__law_bad_cut, decide_true, cl__law_bad_cut]
    refine ⟨p, g, 11, rfl, hP5, by decide, by decide, fun c G6 c0 c1 hP6 f6 => ?_⟩
    refine ⟨c, rfl, c0, c1, fun u G7 l7 ok hu => ?_⟩
    refine ⟨p, g, 7, rfl, hP6.le l7, by decide, by decide, fun c2 G8 c20 c21 hP8 f8 => ?_⟩
    refine lows G8 c2 c20 c21 (f8 _ _ n1.1.symm n1.2.symm (l7 _ _ (f6 _ _ n1.1.symm n1.2.symm e1))) fun v hv => fin.of ?_
    exact q _ _ _ (.inl ⟨u, _, _, rfl, okS_tk (.of_fr hP8 f8) ok, hv.2 _, hhigh.2 _, cutW_s hu⟩) hP8 (((f35.trans f6).trans (Fr.of_le l7)).trans f8)
  · simp only [trSs, trS, trE, trT, trX, pl, trA, trO, trC, trI, uBin_s, uUn_s, uVar_s, uC_s, getS, setS, uOp, uAdd, uSub, uMul, uDiv, uMod, uPow, uNeg, uCmp, uEqF, uLt, uLe, uGt, uGe, uIsF, isNonU, uTru, Blt.fn, uAbs, uMax2, uMin2, uInt, startU, gam_fn, gam_gl, tab_xcs, tab_sub, UD_nx, UD_rt, UD_bk, UD_ct, UD_ex, spAt, glAt, gls, List.map_cons, List.map_nil, List.cons_append, List.nil_append, List.length_cons, List.length_nil, List.replicate, Nat.reduceAdd, Nat.reduceSub, Nat.zero_add, reduceIte, Bool.false_eq_true, Bool.true_eq_false, Bool.false_bne, Bool.true_bne, Bool.not_true, Bool.not_false, Bool.not_not, List.reverse_cons, List.reverse_nil, Option.map_some, Option.map_none, up_same, uSet, atI_zero, atI_one, ixN_20, ixN_zero, List.set_cons_zero, uPow, z_0, z_1, z_2, z_3, z_4, z_5, z_6, z_7, z_8, z_9, z_10, z_11, z_12, z_13, z_14, z_15, z_16, true_and, t6__law_bad_cut, show decide ((2 : Int) = 0) = false from rfl, t5__law_bad_cut, show decide ((2 : Int) = 1) = false from rfl, t4__law_bad_cut, decide_true, cl__law_bad_cut]
    refine ⟨p, g, 7, rfl, hP5, by decide, by decide, fun c2 G8 c20 c21 hP8 f8 => ?_⟩
    refine lows G8 c2 c20 c21 (f8 _ _ n1.1.symm n1.2.symm e1) fun v hv => fin.of ?_
    exact q _ _ _ (.inl ⟨_, _, _, rfl, okS_ints ns, hv.2 _, rfl, cutW_l hS hv.1⟩) hP8 (f35.trans f8)
  · simp only [trSs, trS, trE, trT, trX, pl, trA, trO, trC, trI, uBin_s, uUn_s, uVar_s, uC_s, getS, setS, uOp, uAdd, uSub, uMul, uDiv, uMod, uPow, uNeg, uCmp, uEqF, uLt, uLe, uGt, uGe, uIsF, isNonU, uTru, Blt.fn, uAbs, uMax2, uMin2, uInt, startU, gam_fn, gam_gl, tab_xcs, tab_sub, UD_nx, UD_rt, UD_bk, UD_ct, UD_ex, spAt, glAt, gls, List.map_cons, List.map_nil, List.cons_append, List.nil_append, List.length_cons, List.length_nil, List.replicate, Nat.reduceAdd, Nat.reduceSub, Nat.zero_add, reduceIte, Bool.false_eq_true, Bool.true_eq_false, Bool.false_bne, Bool.true_bne, Bool.not_true, Bool.not_false, Bool.not_not, List.reverse_cons, List.reverse_nil, Option.map_some, Option.map_none, up_same, uSet, atI_zero, atI_one, ixN_20, ixN_zero, List.set_cons_zero, uPow, z_0, z_1, z_2, z_3, z_4, z_5, z_6, z_7, z_8, z_9, z_10, z_11, z_12, z_13, z_14, z_15, z_16, true_and, t6__law_bad_cut, show decide ((3 : Int) = 0) = false from rfl, t5__law_bad_cut, show decide ((3 : Int) = 1) = false from rfl, t4__law_bad_cut, show decide ((3 : Int) = 2) = false from rfl, t3__law_bad_cut, decide_true, cl__law_bad_cut]
    refine ⟨p, g, 7, rfl, hP5, by decide, by decide, fun c2 G8 c20 c21 hP8 f8 => ?_⟩
    refine lows G8 c2 c20 c21 (f8 _ _ n1.1.symm n1.2.symm e1) fun v hv => fin.of ?_
    exact q _ _ _ (.inl ⟨_, _, _, rfl, okS_ints ns, hv.2 _, hhigh.2 _, cutW_l hS hv.1⟩) hP8 (f35.trans f8)
  · simp only [trSs, trS, trE, trT, trX, pl, trA, trO, trC, trI, uBin_s, uUn_s, uVar_s, uC_s, getS, setS, uOp, uAdd, uSub, uMul, uDiv, uMod, uPow, uNeg, uCmp, uEqF, uLt, uLe, uGt, uGe, uIsF, isNonU, uTru, Blt.fn, uAbs, uMax2, uMin2, uInt, startU, gam_fn, gam_gl, tab_xcs, tab_sub, UD_nx, UD_rt, UD_bk, UD_ct, UD_ex, spAt, glAt, gls, List.map_cons, List.map_nil, List.cons_append, List.nil_append, List.length_cons, List.length_nil, List.replicate, Nat.reduceAdd, Nat.reduceSub, Nat.zero_add, reduceIte, Bool.false_eq_true, Bool.true_eq_false, Bool.false_bne, Bool.true_bne, Bool.not_true, Bool.not_false, Bool.not_not, List.reverse_cons, List.reverse_nil, Option.map_some, Option.map_none, up_same, uSet, atI_zero, atI_one, ixN_20, ixN_zero, List.set_cons_zero, uPow, z_0, z_1, z_2, z_3, z_4, z_5, z_6, z_7, z_8, z_9, z_10, z_11, z_12, z_13, z_14, z_15, z_16, true_and, t6__law_bad_cut, show decide ((4 : Int) = 0) = false from rfl, t5__law_bad_cut, show decide ((4 : Int) = 1) = false from rfl, t4__law_bad_cut, show decide ((4 : Int) = 2) = false from rfl, t3__law_bad_cut, show decide ((4 : Int) = 3) = false from rfl, t2__law_bad_cut, decide_true, uLen, List.length_map]
    refine fin.of (q _ _ _ (.inl ⟨_, _, _, rfl, okS_ints ns, rfl, rfl, cutW_h hS (decide_eq_true (p := 0 ≤ (ns.length : Int) + 1) (by omega)) ?_⟩) hP5 f35)
    rw [snd_len]
    exact bad_hi fun i hi => by cases hi; omega
  · simp only [trSs, trS, trE, trT, trX, pl, trA, trO, trC, trI, uBin_s, uUn_s, uVar_s, uC_s, getS, setS, uOp, uAdd, uSub, uMul, uDiv, uMod, uPow, uNeg, uCmp, uEqF, uLt, uLe, uGt, uGe, uIsF, isNonU, uTru, Blt.fn, uAbs, uMax2, uMin2, uInt, startU, gam_fn, gam_gl, tab_xcs, tab_sub, UD_nx, UD_rt, UD_bk, UD_ct, UD_ex, spAt, glAt, gls, List.map_cons, List.map_nil, List.cons_append, List.nil_append, List.length_cons, List.length_nil, List.replicate, Nat.reduceAdd, Nat.reduceSub, Nat.zero_add, reduceIte, Bool.false_eq_true, Bool.true_eq_false, Bool.false_bne, Bool.true_bne, Bool.not_true, Bool.not_false, Bool.not_not, List.reverse_cons, List.reverse_nil, Option.map_some, Option.map_none, up_same, uSet, atI_zero, atI_one, ixN_20, ixN_zero, List.set_cons_zero, uPow, z_0, z_1, z_2, z_3, z_4, z_5, z_6, z_7, z_8, z_9, z_10, z_11, z_12, z_13, z_14, z_15, z_16, true_and, t6__law_bad_cut, show decide ((5 : Int) = 0) = false from rfl, t5__law_bad_cut, show decide ((5 : Int) = 1) = false from rfl, t4__law_bad_cut, show decide ((5 : Int) = 2) = false from rfl, t3__law_bad_cut, show decide ((5 : Int) = 3) = false from rfl, t2__law_bad_cut, show decide ((5 : Int) = 4) = false from rfl, t1__law_bad_cut]
    exact fin.of (q _ _ _ (.inl ⟨_, _, _, rfl, okS_ints ns, rfl, hhigh.2 _, cutW_h hS (decide_eq_true low0) hhigh.1⟩) hP5 f35)
/-! ### _law_bad_deeds -/
def ItemP (G : UH) (u : U) : Prop := ∃ dd w, u = .tup [dd, .str w] ∧ BadD G dd w
theorem ItemP.tk {G G' : UH} (t : Tk G G') {u : U} (h : ItemP G u) : ItemP G' u := by
  obtain ⟨dd, w, e, hb⟩ := h
  exact ⟨dd, w, e, hb.tk t⟩
structure Rows (p g rr : Addr) (us : List U) (G : UH) : Prop where
  pur : Pur G p g
  np : p ≠ rr
  ng : g ≠ rr
  at_ : G rr = some (.lst us)
  items : ∀ u ∈ us, ItemP G u
theorem Rows.fr {p g rr : Addr} {us : List U} {G G' : UH} (h : Rows p g rr us G) (hP : Pur G' p g) (f : Fr p g G G') : Rows p g rr us G' := ⟨hP, h.np, h.ng, f _ _ h.np.symm h.ng.symm h.at_, fun u hu => (h.items u hu).tk (.of_fr hP f)⟩
theorem Rows.le {p g rr : Addr} {us : List U} {G G' : UH} (h : Rows p g rr us G) (l : Le G G') : Rows p g rr us G' := ⟨h.pur.le l, h.np, h.ng, l _ _ h.at_, fun u hu => (h.items u hu).tk (.of_le l)⟩
theorem Rows.add {p g rr : Addr} {us : List U} {G : UH} (h : Rows p g rr us G) {dd : U} {w : Str} (hb : BadD G dd w) : Rows p g rr (us ++ [.tup [dd, .str w]]) (UL.up G rr (.lst (us ++ [.tup [dd, .str w]]))) := ⟨h.pur.upn h.np h.ng, h.np, h.ng, up_same, fun u hu => by
  have t : Tk G (UL.up G rr (.lst (us ++ [.tup [dd, .str w]]))) := Tk.of_up h.at_
  rw [List.mem_append] at hu
  rcases hu with hu | hu
  · exact (h.items u hu).tk t
  · rw [List.mem_singleton.mp hu]
    exact ⟨dd, w, rfl, hb.tk t⟩⟩
def sp__law_bad_deeds : USp := fun us G Q _ => ∃ (p g : Addr) (ns : List Int), us = [.ref p, sndU ns] ∧ Pur G p g ∧ Wd1 ns ∧ ns.length ≤ 90 ∧ ∀ rr us G', Rows p g rr us G' → Q (.ref rr) G'
def cl__law_bad_deeds : List (Str × USp) := [("_law_bad_cut", sp__law_bad_cut), ("_law_bad_joined", sp__law_bad_joined), ("_law_pick", sp__law_pick), ("_law_bad_parts", sp__law_bad_parts), ("_law_bad_points", sp__law_bad_points), ("_law_bad_sound", sp__law_bad_sound)]
theorem w__law_bad_deeds (us : List U) (G : UH) (Q : UK) (E : UXn → UH → Prop) (h : sp__law_bad_deeds us G Q E) : trSs (TB cl__law_bad_deeds) (GM cl__law_bad_deeds) b__law_bad_deeds (UD Q E) (startU n__law_bad_deeds us) G := by
  obtain ⟨p, g, ns, rfl, hP, hW, hl, q⟩ := h
  have lg := line_ge
  have hS : isS (sndU ns) = true := W_ints hW
  simp only [trSs, trS, trE, trT, trX, pl, trA, trO, trC, trI, uBin_s, uUn_s, uVar_s, uC_s, getS, setS, uOp, uAdd, uSub, uMul, uDiv, uMod, uPow, uNeg, uCmp, uEqF, uLt, uLe, uGt, uGe, uIsF, isNonU, uTru, Blt.fn, uAbs, uMax2, uMin2, uInt, startU, gam_fn, gam_gl, tab_xcs, tab_sub, UD_nx, UD_rt, UD_bk, UD_ct, UD_ex, spAt, glAt, gls, List.map_cons, List.map_nil, List.cons_append, List.nil_append, List.length_cons, List.length_nil, List.replicate, Nat.reduceAdd, Nat.reduceSub, Nat.zero_add, reduceIte, Bool.false_eq_true, Bool.true_eq_false, Bool.false_bne, Bool.true_bne, Bool.not_true, Bool.not_false, Bool.not_not, List.reverse_cons, List.reverse_nil, Option.map_some, Option.map_none, up_same, uSet, atI_zero, atI_one, ixN_20, ixN_zero, List.set_cons_zero, uPow, z_0, z_1, z_2, z_3, z_4, z_5, z_6, z_7, z_8, z_9, z_10, z_11, z_12, z_13, z_14, z_15, z_16, true_and, b__law_bad_deeds, n__law_bad_deeds, trG, cl__law_bad_deeds]
  refine ⟨p, g, ns, rfl, hP, hW, hl, fun dd w G1 hb hP1 f1 rr hrr => ?_⟩
  have hne := hP1.ne hrr
  have R : Rows p g rr [.tup [dd, .str w]] (UL.up G1 rr (.lst [.tup [dd, .str w]])) := ⟨hP1.upf hrr, hne.1, hne.2, up_same, fun u hu => by
    rw [List.mem_singleton.mp hu]
    exact ⟨dd, w, rfl, hb.tk (.of_le (.new hrr))⟩⟩
  generalize UL.up G1 rr _ = G2 at R ⊢
  have more : ∀ {us : List U} {G : UH} {n : Nat} {dd : U} {w : Str}, Rows p g rr us G → us.length ≤ n → BadD G dd w → ∃ us', Rows p g rr us' (UL.up G rr (.lst (us ++ [.tup [dd, .str w]]))) ∧ us'.length ≤ n + 1 := fun R h hb => ⟨_, R.add hb, by simp; omega⟩
  obtain ⟨us, R, hn⟩ : ∃ us, Rows p g rr us G2 ∧ us.length ≤ 1 := ⟨_, R, by simp⟩
  simp only [trSs, trS, trE, trT, trX, pl, trA, trO, trC, trI, uBin_s, uUn_s, uVar_s, uC_s, getS, setS, uOp, uAdd, uSub, uMul, uDiv, uMod, uPow, uNeg, uCmp, uEqF, uLt, uLe, uGt, uGe, uIsF, isNonU, uTru, Blt.fn, uAbs, uMax2, uMin2, uInt, startU, gam_fn, gam_gl, tab_xcs, tab_sub, UD_nx, UD_rt, UD_bk, UD_ct, UD_ex, spAt, glAt, gls, List.map_cons, List.map_nil, List.cons_append, List.nil_append, List.length_cons, List.length_nil, List.replicate, Nat.reduceAdd, Nat.reduceSub, Nat.zero_add, reduceIte, Bool.false_eq_true, Bool.true_eq_false, Bool.false_bne, Bool.true_bne, Bool.not_true, Bool.not_false, Bool.not_not, List.reverse_cons, List.reverse_nil, Option.map_some, Option.map_none, up_same, uSet, atI_zero, atI_one, ixN_20, ixN_zero, List.set_cons_zero, uPow, z_0, z_1, z_2, z_3, z_4, z_5, z_6, z_7, z_8, z_9, z_10, z_11, z_12, z_13, z_14, z_15, z_16, true_and, t7__law_bad_deeds, cl__law_bad_deeds, Mth.T, Mth.fn, mTy, uL, R.at_]
  refine ⟨p, g, 9, rfl, R.pur, by decide, by decide, fun c G3 c0 c1 hP3 f3 => ⟨c, rfl, c0, c1, fun u G4 l4 ok hu hl4 => ?_⟩⟩
  have R := (R.fr hP3 f3).le l4
  simp only [trSs, trS, trE, trT, trX, pl, trA, trO, trC, trI, uBin_s, uUn_s, uVar_s, uC_s, getS, setS, uOp, uAdd, uSub, uMul, uDiv, uMod, uPow, uNeg, uCmp, uEqF, uLt, uLe, uGt, uGe, uIsF, isNonU, uTru, Blt.fn, uAbs, uMax2, uMin2, uInt, startU, gam_fn, gam_gl, tab_xcs, tab_sub, UD_nx, UD_rt, UD_bk, UD_ct, UD_ex, spAt, glAt, gls, List.map_cons, List.map_nil, List.cons_append, List.nil_append, List.length_cons, List.length_nil, List.replicate, Nat.reduceAdd, Nat.reduceSub, Nat.zero_add, reduceIte, Bool.false_eq_true, Bool.true_eq_false, Bool.false_bne, Bool.true_bne, Bool.not_true, Bool.not_false, Bool.not_not, List.reverse_cons, List.reverse_nil, Option.map_some, Option.map_none, up_same, uSet, atI_zero, atI_one, ixN_20, ixN_zero, List.set_cons_zero, uPow, z_0, z_1, z_2, z_3, z_4, z_5, z_6, z_7, z_8, z_9, z_10, z_11, z_12, z_13, z_14, z_15, z_16, true_and, R.at_]
  refine ⟨by omega, ?_⟩
  obtain ⟨us, R, hn⟩ := more (dd := .tup [.str "joined", u]) (w := "sounds") R hn (.inr (.inl ⟨u, rfl, ok, by omega, hu, rfl⟩))
  generalize UL.up G4 rr _ = G5 at R ⊢
  simp only [trSs, trS, trE, trT, trX, pl, trA, trO, trC, trI, uBin_s, uUn_s, uVar_s, uC_s, getS, setS, uOp, uAdd, uSub, uMul, uDiv, uMod, uPow, uNeg, uCmp, uEqF, uLt, uLe, uGt, uGe, uIsF, isNonU, uTru, Blt.fn, uAbs, uMax2, uMin2, uInt, startU, gam_fn, gam_gl, tab_xcs, tab_sub, UD_nx, UD_rt, UD_bk, UD_ct, UD_ex, spAt, glAt, gls, List.map_cons, List.map_nil, List.cons_append, List.nil_append, List.length_cons, List.length_nil, List.replicate, Nat.reduceAdd, Nat.reduceSub, Nat.zero_add, reduceIte, Bool.false_eq_true, Bool.true_eq_false, Bool.false_bne, Bool.true_bne, Bool.not_true, Bool.not_false, Bool.not_not, List.reverse_cons, List.reverse_nil, Option.map_some, Option.map_none, up_same, uSet, atI_zero, atI_one, ixN_20, ixN_zero, List.set_cons_zero, uPow, z_0, z_1, z_2, z_3, z_4, z_5, z_6, z_7, z_8, z_9, z_10, z_11, z_12, z_13, z_14, z_15, z_16, true_and, t6__law_bad_deeds, cl__law_bad_deeds, Mth.T, Mth.fn, mTy, uL, R.at_]
  refine ⟨p, g, 13, rfl, R.pur, by decide, by decide, fun c G3 c0 c1 hP3 f3 => ⟨c, rfl, c0, c1, fun u G4 l4 ok hu hl4 => ?_⟩⟩
  have R := (R.fr hP3 f3).le l4
  simp only [trSs, trS, trE, trT, trX, pl, trA, trO, trC, trI, uBin_s, uUn_s, uVar_s, uC_s, getS, setS, uOp, uAdd, uSub, uMul, uDiv, uMod, uPow, uNeg, uCmp, uEqF, uLt, uLe, uGt, uGe, uIsF, isNonU, uTru, Blt.fn, uAbs, uMax2, uMin2, uInt, startU, gam_fn, gam_gl, tab_xcs, tab_sub, UD_nx, UD_rt, UD_bk, UD_ct, UD_ex, spAt, glAt, gls, List.map_cons, List.map_nil, List.cons_append, List.nil_append, List.length_cons, List.length_nil, List.replicate, Nat.reduceAdd, Nat.reduceSub, Nat.zero_add, reduceIte, Bool.false_eq_true, Bool.true_eq_false, Bool.false_bne, Bool.true_bne, Bool.not_true, Bool.not_false, Bool.not_not, List.reverse_cons, List.reverse_nil, Option.map_some, Option.map_none, up_same, uSet, atI_zero, atI_one, ixN_20, ixN_zero, List.set_cons_zero, uPow, z_0, z_1, z_2, z_3, z_4, z_5, z_6, z_7, z_8, z_9, z_10, z_11, z_12, z_13, z_14, z_15, z_16, true_and, R.at_]
  refine ⟨by omega, ?_⟩
  obtain ⟨us, R, hn⟩ := more (dd := .tup [.str "mixed", u]) (w := "parts") R hn (.inr (.inr (.inl ⟨u, rfl, ok, hl4, hu, rfl⟩)))
  generalize UL.up G4 rr _ = G6 at R ⊢
  simp only [trSs, trS, trE, trT, trX, pl, trA, trO, trC, trI, uBin_s, uUn_s, uVar_s, uC_s, getS, setS, uOp, uAdd, uSub, uMul, uDiv, uMod, uPow, uNeg, uCmp, uEqF, uLt, uLe, uGt, uGe, uIsF, isNonU, uTru, Blt.fn, uAbs, uMax2, uMin2, uInt, startU, gam_fn, gam_gl, tab_xcs, tab_sub, UD_nx, UD_rt, UD_bk, UD_ct, UD_ex, spAt, glAt, gls, List.map_cons, List.map_nil, List.cons_append, List.nil_append, List.length_cons, List.length_nil, List.replicate, Nat.reduceAdd, Nat.reduceSub, Nat.zero_add, reduceIte, Bool.false_eq_true, Bool.true_eq_false, Bool.false_bne, Bool.true_bne, Bool.not_true, Bool.not_false, Bool.not_not, List.reverse_cons, List.reverse_nil, Option.map_some, Option.map_none, up_same, uSet, atI_zero, atI_one, ixN_20, ixN_zero, List.set_cons_zero, uPow, z_0, z_1, z_2, z_3, z_4, z_5, z_6, z_7, z_8, z_9, z_10, z_11, z_12, z_13, z_14, z_15, z_16, true_and, t5__law_bad_deeds, cl__law_bad_deeds, trG]
  refine ⟨p, g, 15, rfl, R.pur, by decide, by decide, fun c G3 c0 c1 hP3 f3 => ⟨c, rfl, c0, c1, fun bad G4 l4 okb hbad => ?_⟩⟩
  have R := (R.fr hP3 f3).le l4
  simp only [trSs, trS, trE, trT, trX, pl, trA, trO, trC, trI, uBin_s, uUn_s, uVar_s, uC_s, getS, setS, uOp, uAdd, uSub, uMul, uDiv, uMod, uPow, uNeg, uCmp, uEqF, uLt, uLe, uGt, uGe, uIsF, isNonU, uTru, Blt.fn, uAbs, uMax2, uMin2, uInt, startU, gam_fn, gam_gl, tab_xcs, tab_sub, UD_nx, UD_rt, UD_bk, UD_ct, UD_ex, spAt, glAt, gls, List.map_cons, List.map_nil, List.cons_append, List.nil_append, List.length_cons, List.length_nil, List.replicate, Nat.reduceAdd, Nat.reduceSub, Nat.zero_add, reduceIte, Bool.false_eq_true, Bool.true_eq_false, Bool.false_bne, Bool.true_bne, Bool.not_true, Bool.not_false, Bool.not_not, List.reverse_cons, List.reverse_nil, Option.map_some, Option.map_none, up_same, uSet, atI_zero, atI_one, ixN_20, ixN_zero, List.set_cons_zero, uPow, z_0, z_1, z_2, z_3, z_4, z_5, z_6, z_7, z_8, z_9, z_10, z_11, z_12, z_13, z_14, z_15, z_16, true_and, t4__law_bad_deeds, cl__law_bad_deeds, Mth.T, Mth.fn, mTy, uL, R.at_]
  refine ⟨by omega, ?_⟩
  have tk := Tk.of_up (y := us ++ [.tup [.tup [.str "faded", sndU ns, bad], .str "points"]]) R.at_
  obtain ⟨us', R, hn⟩ := more (dd := .tup [.str "faded", sndU ns, bad]) (w := "points") R hn (.inr (.inr (.inr (.inl ⟨_, _, rfl, okS_ints ns, okb, .inr ⟨hS, hbad, rfl⟩⟩))))
  have okb := ok2_tk tk okb
  generalize UL.up G4 rr _ = G5 at R okb ⊢
  -- behind the two ways
  have st2 : ∀ (us : List U) (G6 : UH), Rows p g rr us G6 → us.length ≤ 5 → trSs (TB cl__law_bad_deeds) (GM cl__law_bad_deeds) t2__law_bad_deeds (UD Q E) [some (.ref p), some (sndU ns), some (.ref rr), some bad] G6 := by
    intro us G6 R hn
    simp only [trSs, trS, trE, trT, trX, pl, trA, trO, trC, trI, uBin_s, uUn_s, uVar_s, uC_s, getS, setS, uOp, uAdd, uSub, uMul, uDiv, uMod, uPow, uNeg, uCmp, uEqF, uLt, uLe, uGt, uGe, uIsF, isNonU, uTru, Blt.fn, uAbs, uMax2, uMin2, uInt, startU, gam_fn, gam_gl, tab_xcs, tab_sub, UD_nx, UD_rt, UD_bk, UD_ct, UD_ex, spAt, glAt, gls, List.map_cons, List.map_nil, List.cons_append, List.nil_append, List.length_cons, List.length_nil, List.replicate, Nat.reduceAdd, Nat.reduceSub, Nat.zero_add, reduceIte, Bool.false_eq_true, Bool.true_eq_false, Bool.false_bne, Bool.true_bne, Bool.not_true, Bool.not_false, Bool.not_not, List.reverse_cons, List.reverse_nil, Option.map_some, Option.map_none, up_same, uSet, atI_zero, atI_one, ixN_20, ixN_zero, List.set_cons_zero, uPow, z_0, z_1, z_2, z_3, z_4, z_5, z_6, z_7, z_8, z_9, z_10, z_11, z_12, z_13, z_14, z_15, z_16, true_and, t2__law_bad_deeds, cl__law_bad_deeds, Mth.T, Mth.fn, mTy, uL, R.at_]
    refine ⟨p, g, 11, rfl, R.pur, by decide, by decide, fun c G3 c0 c1 hP3 f3 => ⟨c, rfl, c0, c1, fun u G4 l4 ok hu => ?_⟩⟩
    have R := (R.fr hP3 f3).le l4
    simp only [trSs, trS, trE, trT, trX, pl, trA, trO, trC, trI, uBin_s, uUn_s, uVar_s, uC_s, getS, setS, uOp, uAdd, uSub, uMul, uDiv, uMod, uPow, uNeg, uCmp, uEqF, uLt, uLe, uGt, uGe, uIsF, isNonU, uTru, Blt.fn, uAbs, uMax2, uMin2, uInt, startU, gam_fn, gam_gl, tab_xcs, tab_sub, UD_nx, UD_rt, UD_bk, UD_ct, UD_ex, spAt, glAt, gls, List.map_cons, List.map_nil, List.cons_append, List.nil_append, List.length_cons, List.length_nil, List.replicate, Nat.reduceAdd, Nat.reduceSub, Nat.zero_add, reduceIte, Bool.false_eq_true, Bool.true_eq_false, Bool.false_bne, Bool.true_bne, Bool.not_true, Bool.not_false, Bool.not_not, List.reverse_cons, List.reverse_nil, Option.map_some, Option.map_none, up_same, uSet, atI_zero, atI_one, ixN_20, ixN_zero, List.set_cons_zero, uPow, z_0, z_1, z_2, z_3, z_4, z_5, z_6, z_7, z_8, z_9, z_10, z_11, z_12, z_13, z_14, z_15, z_16, true_and, R.at_]
    refine ⟨by omega, ?_⟩
    obtain ⟨us, R, hn⟩ := more (dd := .tup [.str "back", u]) (w := "sound") R hn (.inr (.inr (.inr (.inr ⟨u, rfl, ok, hu, rfl⟩))))
    simp only [trSs, trS, trE, trT, trX, pl, trA, trO, trC, trI, uBin_s, uUn_s, uVar_s, uC_s, getS, setS, uOp, uAdd, uSub, uMul, uDiv, uMod, uPow, uNeg, uCmp, uEqF, uLt, uLe, uGt, uGe, uIsF, isNonU, uTru, Blt.fn, uAbs, uMax2, uMin2, uInt, startU, gam_fn, gam_gl, tab_xcs, tab_sub, UD_nx, UD_rt, UD_bk, UD_ct, UD_ex, spAt, glAt, gls, List.map_cons, List.map_nil, List.cons_append, List.nil_append, List.length_cons, List.length_nil, List.replicate, Nat.reduceAdd, Nat.reduceSub, Nat.zero_add, reduceIte, Bool.false_eq_true, Bool.true_eq_false, Bool.false_bne, Bool.true_bne, Bool.not_true, Bool.not_false, Bool.not_not, List.reverse_cons, List.reverse_nil, Option.map_some, Option.map_none, up_same, uSet, atI_zero, atI_one, ixN_20, ixN_zero, List.set_cons_zero, uPow, z_0, z_1, z_2, z_3, z_4, z_5, z_6, z_7, z_8, z_9, z_10, z_11, z_12, z_13, z_14, z_15, z_16, true_and, t1__law_bad_deeds]
    exact fin.of (q rr us _ R)
  simp only [trSs, trS, trE, trT, trX, pl, trA, trO, trC, trI, uBin_s, uUn_s, uVar_s, uC_s, getS, setS, uOp, uAdd, uSub, uMul, uDiv, uMod, uPow, uNeg, uCmp, uEqF, uLt, uLe, uGt, uGe, uIsF, isNonU, uTru, Blt.fn, uAbs, uMax2, uMin2, uInt, startU, gam_fn, gam_gl, tab_xcs, tab_sub, UD_nx, UD_rt, UD_bk, UD_ct, UD_ex, spAt, glAt, gls, List.map_cons, List.map_nil, List.cons_append, List.nil_append, List.length_cons, List.length_nil, List.replicate, Nat.reduceAdd, Nat.reduceSub, Nat.zero_add, reduceIte, Bool.false_eq_true, Bool.true_eq_false, Bool.false_bne, Bool.true_bne, Bool.not_true, Bool.not_false, Bool.not_not, List.reverse_cons, List.reverse_nil, Option.map_some, Option.map_none, up_same, uSet, atI_zero, atI_one, ixN_20, ixN_zero, List.set_cons_zero, uPow, z_0, z_1, z_2, z_3, z_4, z_5, z_6, z_7, z_8, z_9, z_10, z_11, z_12, z_13, z_14, z_15, z_16, true_and, t3__law_bad_deeds, cl__law_bad_deeds]
  refine ⟨p, g, 2, rfl, R.pur, by decide, by decide, fun c G6 c0 c1 hP6 f6 => ?_⟩
  have okb := ok2_tk (.of_fr hP6 f6) okb
  have R := R.fr hP6 f6
  by_cases c : c = 0
  · simp only [trSs, trS, trE, trT, trX, pl, trA, trO, trC, trI, uBin_s, uUn_s, uVar_s, uC_s, getS, setS, uOp, uAdd, uSub, uMul, uDiv, uMod, uPow, uNeg, uCmp, uEqF, uLt, uLe, uGt, uGe, uIsF, isNonU, uTru, Blt.fn, uAbs, uMax2, uMin2, uInt, startU, gam_fn, gam_gl, tab_xcs, tab_sub, UD_nx, UD_rt, UD_bk, UD_ct, UD_ex, spAt, glAt, gls, List.map_cons, List.map_nil, List.cons_append, List.nil_append, List.length_cons, List.length_nil, List.replicate, Nat.reduceAdd, Nat.reduceSub, Nat.zero_add, reduceIte, Bool.false_eq_true, Bool.true_eq_false, Bool.false_bne, Bool.true_bne, Bool.not_true, Bool.not_false, Bool.not_not, List.reverse_cons, List.reverse_nil, Option.map_some, Option.map_none, up_same, uSet, atI_zero, atI_one, ixN_20, ixN_zero, List.set_cons_zero, uPow, z_0, z_1, z_2, z_3, z_4, z_5, z_6, z_7, z_8, z_9, z_10, z_11, z_12, z_13, z_14, z_15, z_16, true_and, c, decide_true, cl__law_bad_deeds, Mth.T, Mth.fn, mTy, uL, R.at_]
    refine ⟨p, g, 11, rfl, R.pur, by decide, by decide, fun c G3 c0 c1 hP3 f3 => ⟨c, rfl, c0, c1, fun u G4 l4 ok hu => ?_⟩⟩
    have R := (R.fr hP3 f3).le l4
    simp only [trSs, trS, trE, trT, trX, pl, trA, trO, trC, trI, uBin_s, uUn_s, uVar_s, uC_s, getS, setS, uOp, uAdd, uSub, uMul, uDiv, uMod, uPow, uNeg, uCmp, uEqF, uLt, uLe, uGt, uGe, uIsF, isNonU, uTru, Blt.fn, uAbs, uMax2, uMin2, uInt, startU, gam_fn, gam_gl, tab_xcs, tab_sub, UD_nx, UD_rt, UD_bk, UD_ct, UD_ex, spAt, glAt, gls, List.map_cons, List.map_nil, List.cons_append, List.nil_append, List.length_cons, List.length_nil, List.replicate, Nat.reduceAdd, Nat.reduceSub, Nat.zero_add, reduceIte, Bool.false_eq_true, Bool.true_eq_false, Bool.false_bne, Bool.true_bne, Bool.not_true, Bool.not_false, Bool.not_not, List.reverse_cons, List.reverse_nil, Option.map_some, Option.map_none, up_same, uSet, atI_zero, atI_one, ixN_20, ixN_zero, List.set_cons_zero, uPow, z_0, z_1, z_2, z_3, z_4, z_5, z_6, z_7, z_8, z_9, z_10, z_11, z_12, z_13, z_14, z_15, z_16, true_and, R.at_]
    refine ⟨by omega, ?_⟩
    obtain ⟨us, R, hn⟩ := more (dd := .tup [.str "faded", u, bad]) (w := "sound") R hn (.inr (.inr (.inr (.inl ⟨_, _, rfl, ok, ok2_tk (.of_le l4) (ok2_tk (.of_fr hP3 f3) okb), .inl ⟨hu, rfl⟩⟩))))
    exact st2 us _ R (by omega)
  · simp only [trSs, trS, trE, trT, trX, pl, trA, trO, trC, trI, uBin_s, uUn_s, uVar_s, uC_s, getS, setS, uOp, uAdd, uSub, uMul, uDiv, uMod, uPow, uNeg, uCmp, uEqF, uLt, uLe, uGt, uGe, uIsF, isNonU, uTru, Blt.fn, uAbs, uMax2, uMin2, uInt, startU, gam_fn, gam_gl, tab_xcs, tab_sub, UD_nx, UD_rt, UD_bk, UD_ct, UD_ex, spAt, glAt, gls, List.map_cons, List.map_nil, List.cons_append, List.nil_append, List.length_cons, List.length_nil, List.replicate, Nat.reduceAdd, Nat.reduceSub, Nat.zero_add, reduceIte, Bool.false_eq_true, Bool.true_eq_false, Bool.false_bne, Bool.true_bne, Bool.not_true, Bool.not_false, Bool.not_not, List.reverse_cons, List.reverse_nil, Option.map_some, Option.map_none, up_same, uSet, atI_zero, atI_one, ixN_20, ixN_zero, List.set_cons_zero, uPow, z_0, z_1, z_2, z_3, z_4, z_5, z_6, z_7, z_8, z_9, z_10, z_11, z_12, z_13, z_14, z_15, z_16, true_and, c, decide_false, cl__law_bad_deeds, Mth.T, Mth.fn, mTy, uL, R.at_]
    refine ⟨p, g, 11, rfl, R.pur, by decide, by decide, fun c G3 c0 c1 hP3 f3 => ⟨c, rfl, c0, c1, fun u G4 l4 ok hu => ?_⟩⟩
    have R := (R.fr hP3 f3).le l4
    simp only [trSs, trS, trE, trT, trX, pl, trA, trO, trC, trI, uBin_s, uUn_s, uVar_s, uC_s, getS, setS, uOp, uAdd, uSub, uMul, uDiv, uMod, uPow, uNeg, uCmp, uEqF, uLt, uLe, uGt, uGe, uIsF, isNonU, uTru, Blt.fn, uAbs, uMax2, uMin2, uInt, startU, gam_fn, gam_gl, tab_xcs, tab_sub, UD_nx, UD_rt, UD_bk, UD_ct, UD_ex, spAt, glAt, gls, List.map_cons, List.map_nil, List.cons_append, List.nil_append, List.length_cons, List.length_nil, List.replicate, Nat.reduceAdd, Nat.reduceSub, Nat.zero_add, reduceIte, Bool.false_eq_true, Bool.true_eq_false, Bool.false_bne, Bool.true_bne, Bool.not_true, Bool.not_false, Bool.not_not, List.reverse_cons, List.reverse_nil, Option.map_some, Option.map_none, up_same, uSet, atI_zero, atI_one, ixN_20, ixN_zero, List.set_cons_zero, uPow, z_0, z_1, z_2, z_3, z_4, z_5, z_6, z_7, z_8, z_9, z_10, z_11, z_12, z_13, z_14, z_15, z_16, true_and, R.at_]
    refine ⟨by omega, ?_⟩
    obtain ⟨us, R, hn⟩ := more (dd := .tup [.str "faded", u, .tup [.tup [.int 0, .int 4096]]]) (w := "sound") R hn (.inr (.inr (.inr (.inl ⟨_, _, rfl, ok, ok2_pts [(0, 4096)], .inl ⟨hu, rfl⟩⟩))))
    exact st2 us _ R (by omega)
end K79
set_option Elab.async false
set_option linter.all false
set_option autoImplicit false
set_option maxRecDepth 100000
set_option maxHeartbeats 4000000
namespace K79
open PySem PySem.Spec L2 UL
theorem lcU_accD {ds : Deps} {p : Addr} {g : U → (USt → UH → Prop) → UH → Prop} {tt : USt → UH → (Bool → UH → Prop) → Prop} {te : USt → UH → UK → Prop} {Q : UK} (I : UH → Prop) (P : U → Prop) (hd : ∀ G, I G → depsOk G ds) (hI : ∀ G acc, I G → I (UL.up G p (.lst acc))) (n : Nat) (hn : n ≤ sizeLine)
    (q : ∀ G acc, I G → G p = some (.lst acc) → (∀ a ∈ acc, P a) → acc.length = n → Q (.ref p) G) :
    ∀ (ys acc : List U) (G : UH), acc.length + ys.length = n → I G → G p = some (.lst acc) → (∀ a ∈ acc, P a) →
      (∀ y ∈ ys, ∀ (acc : List U) (G : UH) (K1 : UK) (K0 : UH → Prop), I G → G p = some (.lst acc) → (∀ u G', P u → I G' → G' p = some (.lst acc) → K1 u G') → g y (fun s1 G1 => tt s1 G1 fun b G2 => if b = true then te s1 G2 K1 else K0 G2) G) →
      lcU ds p g tt te Q ys acc G
  | [], acc, G, hl, hi, hp, ha, _ => ⟨hd G hi, hp, q G acc hi hp ha (by simpa using hl)⟩
  | y :: ys, acc, G, hl, hi, hp, ha, st => by
    refine ⟨hd G hi, hp, st y List.mem_cons_self acc G _ _ hi hp fun u G' hu hi' hp' => ⟨hp', by simp only [List.length_cons] at hl; omega, _, .refl _, ?_⟩⟩
    refine lcU_accD I P hd hI n hn q ys (acc ++ [u]) _ (by simp only [List.length_cons, List.length_append, List.length_nil] at hl ⊢; omega) (hI _ _ hi') up_same (fun a h => ?_) fun y hy => st y (List.mem_cons_of_mem _ hy)
    rw [List.mem_append] at h
    rcases h with h | h
    · exact ha a h
    · rw [List.mem_singleton.mp h]
      exact hu
/-! ### _law_deed -/
def goodS (ns : List Int) : Prop := Wd1 ns ∧ ns.length ≤ 90
def sp__law_deed : USp := fun us G Q _ => ∃ (p g sh : Addr) (nss : List (List Int)), us = [.ref p, .ref sh] ∧ Pur G p g ∧ p ≠ sh ∧ g ≠ sh ∧ G sh = some (.lst (nss.map sndU)) ∧ nss ≠ [] ∧ nss.length ≤ 20 ∧ (∀ ns ∈ nss, goodS ns) ∧
  ∀ (d : Deed) G', d.ok → Pur G' p g → Fr p g G G' → Q d.u G'
def cl__law_deed : List (Str × USp) := [("_law_pick", sp__law_pick), ("_law_points", sp__law_points)]
theorem snds_of {P : List Int → Prop} {us : List U} (h : ∀ u ∈ us, ∃ ns, u = sndU ns ∧ P ns) : ∃ nss : List (List Int), us = nss.map sndU ∧ ∀ ns ∈ nss, P ns := by
  induction us with
  | nil => exact ⟨[], rfl, by simp⟩
  | cons u us ih =>
    obtain ⟨nss, h1, h2⟩ := ih fun x hx => h x (List.mem_cons_of_mem _ hx)
    obtain ⟨ns, e, hp⟩ := h u List.mem_cons_self
    refine ⟨ns :: nss, by rw [h1, e]; rfl, fun x hx => ?_⟩
    rw [List.mem_cons] at hx
    rcases hx with rfl | hx
    · exact hp
    · exact h2 x hx
theorem parts_of {P : Part → Prop} {us : List U} (h : ∀ u ∈ us, ∃ q, u = partU q ∧ P q) : ∃ ps : List Part, us = ps.map partU ∧ ∀ q ∈ ps, P q := by
  induction us with
  | nil => exact ⟨[], rfl, by simp⟩
  | cons u us ih =>
    obtain ⟨nss, h1, h2⟩ := ih fun x hx => h x (List.mem_cons_of_mem _ hx)
    obtain ⟨ns, e, hp⟩ := h u List.mem_cons_self
    refine ⟨ns :: nss, by rw [h1, e]; rfl, fun x hx => ?_⟩
    rw [List.mem_cons] at hx
    rcases hx with rfl | hx
    · exact hp
    · exact h2 x hx
theorem Fr.up_new {p g a : Addr} {G G' : UH} {o : UO} (h0 : G a = none) (f : Fr p g G G') : Fr p g G (UL.up G' a o) := fun b x h1 h2 e => by
  rw [up_ne (fun z => by subst z; rw [h0] at e; cases e)]
  exact f b x h1 h2 e
theorem w__law_deed (us : List U) (G : UH) (Q : UK) (E : UXn → UH → Prop) (h : sp__law_deed us G Q E) : trSs (TB cl__law_deed) (GM cl__law_deed) b__law_deed (UD Q E) (startU n__law_deed us) G := by
  obtain ⟨p, g, sh, nss, rfl, hP, np, ng, hsh, hne, hlen, hg, q⟩ := h
  have lg := line_ge
  have hl1 : 1 ≤ nss.length := by
    cases nss with
    | nil => exact absurd rfl hne
    | cons a r => simp
  -- a sound of the shelf
  have pickS : ∀ (G1 : UH) (c : Int), 0 ≤ c → c < nss.length → G1 sh = some (.lst (nss.map sndU)) → ∀ {K : UK}, (∀ ns, goodS ns → K (sndU ns) G1) → uIx (.ref sh) (.int c) G1 K := by
    intro G1 c c0 c1 e K k
    refine ix_any (P := fun u => ∃ ns, u = sndU ns ∧ goodS ns) e (fun u hu => ?_) c0 (by rw [List.length_map]; exact c1) fun u hu => ?_
    · obtain ⟨ns, hn, rfl⟩ := List.mem_map.mp hu
      exact ⟨ns, rfl, hg ns hn⟩
    · obtain ⟨ns, rfl, hn⟩ := hu
      exact k ns hn
  simp only [trSs, trS, trE, trT, trX, pl, trA, trO, trC, trI, uBin_s, uUn_s, uVar_s, uC_s, getS, setS, uOp, uAdd, uSub, uMul, uDiv, uMod, uPow, uNeg, uCmp, uEqF, uLt, uLe, uGt, uGe, uIsF, isNonU, uTru, Blt.fn, uAbs, uMax2, uMin2, uInt, startU, gam_fn, gam_gl, tab_xcs, tab_sub, UD_nx, UD_rt, UD_bk, UD_ct, UD_ex, spAt, glAt, gls, List.map_cons, List.map_nil, List.cons_append, List.nil_append, List.length_cons, List.length_nil, List.replicate, Nat.reduceAdd, Nat.reduceSub, Nat.zero_add, reduceIte, Bool.false_eq_true, Bool.true_eq_false, Bool.false_bne, Bool.true_bne, Bool.not_true, Bool.not_false, Bool.not_not, List.reverse_cons, List.reverse_nil, Option.map_some, Option.map_none, up_same, uSet, atI_zero, atI_one, ixN_20, ixN_zero, List.set_cons_zero, uPow, z_0, z_1, z_2, z_3, z_4, z_5, z_6, z_7, z_8, z_9, z_10, z_11, z_12, z_13, z_14, z_15, z_16, true_and, b__law_deed, n__law_deed, trG, cl__law_deed]
  intro r hr
  have hnr := hP.ne hr
  have e0 : UL.up G r (.lst [.str "cut", .str "joined", .str "mixed", .str "mixed", .str "faded", .str "faded", .str "back"]) r = some (.lst [.str "cut", .str "joined", .str "mixed", .str "mixed", .str "faded", .str "faded", .str "back"]) := up_same
  have l0 := Le.new hr (o := .lst [.str "cut", .str "joined", .str "mixed", .str "mixed", .str "faded", .str "faded", .str "back"])
  generalize UL.up G r _ = G0 at e0 l0 ⊢
  refine ⟨p, g, 7, rfl, hP.le l0, by decide, by decide, fun c G1 c0 c1 hP1 f1p => ?_⟩
  have f1 := (Fr.of_le (p := p) (g := g) l0).trans f1p
  have e1 := f1 _ _ np.symm ng.symm hsh
  refine ix_any (P := fun u => u = .str "cut" ∨ u = .str "joined" ∨ u = .str "mixed" ∨ u = .str "faded" ∨ u = .str "back") (us := [.str "cut", .str "joined", .str "mixed", .str "mixed", .str "faded", .str "faded", .str "back"]) ?_ (fun u hu => ?_) c0 (by simpa using c1) fun u hu => ?_
  · exact f1p _ _ hnr.1.symm hnr.2.symm e0
  · simp only [List.mem_cons, List.mem_nil_iff, or_false] at hu
    rcases hu with rfl | rfl | rfl | rfl | rfl | rfl | rfl <;> simp
  simp only [trSs, trS, trE, trT, trX, pl, trA, trO, trC, trI, uBin_s, uUn_s, uVar_s, uC_s, getS, setS, uOp, uAdd, uSub, uMul, uDiv, uMod, uPow, uNeg, uCmp, uEqF, uLt, uLe, uGt, uGe, uIsF, isNonU, uTru, Blt.fn, uAbs, uMax2, uMin2, uInt, startU, gam_fn, gam_gl, tab_xcs, tab_sub, UD_nx, UD_rt, UD_bk, UD_ct, UD_ex, spAt, glAt, gls, List.map_cons, List.map_nil, List.cons_append, List.nil_append, List.length_cons, List.length_nil, List.replicate, Nat.reduceAdd, Nat.reduceSub, Nat.zero_add, reduceIte, Bool.false_eq_true, Bool.true_eq_false, Bool.false_bne, Bool.true_bne, Bool.not_true, Bool.not_false, Bool.not_not, List.reverse_cons, List.reverse_nil, Option.map_some, Option.map_none, up_same, uSet, atI_zero, atI_one, ixN_20, ixN_zero, List.set_cons_zero, uPow, z_0, z_1, z_2, z_3, z_4, z_5, z_6, z_7, z_8, z_9, z_10, z_11, z_12, z_13, z_14, z_15, z_16, true_and, t10__law_deed, cl__law_deed, trG, uLen, e1, List.length_map]
  refine ⟨p, g, _, rfl, hP1, by omega, by omega, fun c2 G2 c20 c21 hP2 f2 => ?_⟩
  have f2 := f1.trans f2
  have e2 := f2 _ _ np.symm ng.symm hsh
  refine pickS G2 c2 c20 c21 e2 fun ns hns => ?_
  have s12 : decide (("joined" : Str) = "faded") = false := by decide +kernel
  have s13 : decide (("joined" : Str) = "back") = false := by decide +kernel
  have s14 : decide (("mixed" : Str) = "faded") = false := by decide +kernel
  have s15 : decide (("mixed" : Str) = "back") = false := by decide +kernel
  have st6 : ∀ (wh : Str), (∀ (nss' : List (List Int)) (ra : Addr) (G4 : UH), p ≠ ra → g ≠ ra → G4 ra = some (.lst (nss'.map sndU)) → (∀ ns ∈ nss', goodS ns) → nss'.length ≤ 5 → Pur G4 p g → Fr p g G G4 →
      trSs (TB cl__law_deed) (GM cl__law_deed) t5__law_deed (UD Q E) [some (.ref p), some (.ref sh), some (.str wh), some (sndU ns), none, some (.ref ra), none, none, none] G4) →
      trSs (TB cl__law_deed) (GM cl__law_deed) t6__law_deed (UD Q E) [some (.ref p), some (.ref sh), some (.str wh), some (sndU ns), none, none, none, none, none] G2 := by
    intro wh k
    simp only [trSs, trS, trE, trT, trX, pl, trA, trO, trC, trI, uBin_s, uUn_s, uVar_s, uC_s, getS, setS, uOp, uAdd, uSub, uMul, uDiv, uMod, uPow, uNeg, uCmp, uEqF, uLt, uLe, uGt, uGe, uIsF, isNonU, uTru, Blt.fn, uAbs, uMax2, uMin2, uInt, startU, gam_fn, gam_gl, tab_xcs, tab_sub, UD_nx, UD_rt, UD_bk, UD_ct, UD_ex, spAt, glAt, gls, List.map_cons, List.map_nil, List.cons_append, List.nil_append, List.length_cons, List.length_nil, List.replicate, Nat.reduceAdd, Nat.reduceSub, Nat.zero_add, reduceIte, Bool.false_eq_true, Bool.true_eq_false, Bool.false_bne, Bool.true_bne, Bool.not_true, Bool.not_false, Bool.not_not, List.reverse_cons, List.reverse_nil, Option.map_some, Option.map_none, up_same, uSet, atI_zero, atI_one, ixN_20, ixN_zero, List.set_cons_zero, uPow, z_0, z_1, z_2, z_3, z_4, z_5, z_6, z_7, z_8, z_9, z_10, z_11, z_12, z_13, z_14, z_15, z_16, true_and, t6__law_deed, cl__law_deed]
    refine ⟨p, g, 6, rfl, hP2, by decide, by decide, fun n G3 n0 n1 hP3 f3 => ?_⟩
    have f3 := f2.trans f3
    refine ⟨by unfold small62; omega, ?_⟩
    rw [rangeU_map]
    intro ra hra
    have hn := hP3.ne hra
    refine lcU_accD (fun G4 => Pur G4 p g ∧ Fr p g G3 G4) (fun u => ∃ ns, u = sndU ns ∧ goodS ns) (fun _ _ => depsNil) (fun G4 acc h => ⟨h.1.upn hn.1 hn.2, Fr.up_new hra h.2⟩) n.toNat (by omega) ?_ _ [] _ (by rw [List.length_map, rangeI_len]; simp) ⟨hP3.upf hra, Fr.of_le (.new hra)⟩ up_same (by simp) ?_
    · intro G4 us hI hus hB hl4
      obtain ⟨nss', rfl, hx⟩ := snds_of hB
      rw [List.length_map] at hl4
      exact k nss' ra G4 hn.1 hn.2 hus hx (by omega) hI.1 (f3.trans hI.2)
    · intro y hy acc G4 K1 K0 hI hacc kk
      have e4 := (f3.trans hI.2) _ _ np.symm ng.symm hsh
      simp only [trSs, trS, trE, trT, trX, pl, trA, trO, trC, trI, uBin_s, uUn_s, uVar_s, uC_s, getS, setS, uOp, uAdd, uSub, uMul, uDiv, uMod, uPow, uNeg, uCmp, uEqF, uLt, uLe, uGt, uGe, uIsF, isNonU, uTru, Blt.fn, uAbs, uMax2, uMin2, uInt, startU, gam_fn, gam_gl, tab_xcs, tab_sub, UD_nx, UD_rt, UD_bk, UD_ct, UD_ex, spAt, glAt, gls, List.map_cons, List.map_nil, List.cons_append, List.nil_append, List.length_cons, List.length_nil, List.replicate, Nat.reduceAdd, Nat.reduceSub, Nat.zero_add, reduceIte, Bool.false_eq_true, Bool.true_eq_false, Bool.false_bne, Bool.true_bne, Bool.not_true, Bool.not_false, Bool.not_not, List.reverse_cons, List.reverse_nil, Option.map_some, Option.map_none, up_same, uSet, atI_zero, atI_one, ixN_20, ixN_zero, List.set_cons_zero, uPow, z_0, z_1, z_2, z_3, z_4, z_5, z_6, z_7, z_8, z_9, z_10, z_11, z_12, z_13, z_14, z_15, z_16, true_and, slotsG, slotsGs, wipeU, trG, cl__law_deed, uLen, e4, List.length_map]
      refine ⟨p, g, _, rfl, hI.1, by omega, by omega, fun c3 G5 c30 c31 hP5 f5 => ?_⟩
      exact pickS G5 c3 c30 c31 (f5 _ _ np.symm ng.symm e4) fun ns hn' => kk _ _ ⟨ns, rfl, hn'⟩ ⟨hP5, hI.2.trans f5⟩ (f5 _ _ hn.1.symm hn.2.symm hacc)
  rcases hu with rfl | rfl | rfl | rfl | rfl
  · -- cut
    simp only [trSs, trS, trE, trT, trX, pl, trA, trO, trC, trI, uBin_s, uUn_s, uVar_s, uC_s, getS, setS, uOp, uAdd, uSub, uMul, uDiv, uMod, uPow, uNeg, uCmp, uEqF, uLt, uLe, uGt, uGe, uIsF, isNonU, uTru, Blt.fn, uAbs, uMax2, uMin2, uInt, startU, gam_fn, gam_gl, tab_xcs, tab_sub, UD_nx, UD_rt, UD_bk, UD_ct, UD_ex, spAt, glAt, gls, List.map_cons, List.map_nil, List.cons_append, List.nil_append, List.length_cons, List.length_nil, List.replicate, Nat.reduceAdd, Nat.reduceSub, Nat.zero_add, reduceIte, Bool.false_eq_true, Bool.true_eq_false, Bool.false_bne, Bool.true_bne, Bool.not_true, Bool.not_false, Bool.not_not, List.reverse_cons, List.reverse_nil, Option.map_some, Option.map_none, up_same, uSet, atI_zero, atI_one, ixN_20, ixN_zero, List.set_cons_zero, uPow, z_0, z_1, z_2, z_3, z_4, z_5, z_6, z_7, z_8, z_9, z_10, z_11, z_12, z_13, z_14, z_15, z_16, true_and, t9__law_deed, decide_true, cl__law_deed, trG, uLen, List.length_map]
    have := hns.2
    refine ⟨p, g, _, rfl, hP2, by omega, by omega, fun lo G3 lo0 lo1 hP3 f3 => ?_⟩
    simp only [trSs, trS, trE, trT, trX, pl, trA, trO, trC, trI, uBin_s, uUn_s, uVar_s, uC_s, getS, setS, uOp, uAdd, uSub, uMul, uDiv, uMod, uPow, uNeg, uCmp, uEqF, uLt, uLe, uGt, uGe, uIsF, isNonU, uTru, Blt.fn, uAbs, uMax2, uMin2, uInt, startU, gam_fn, gam_gl, tab_xcs, tab_sub, UD_nx, UD_rt, UD_bk, UD_ct, UD_ex, spAt, glAt, gls, List.map_cons, List.map_nil, List.cons_append, List.nil_append, List.length_cons, List.length_nil, List.replicate, Nat.reduceAdd, Nat.reduceSub, Nat.zero_add, reduceIte, Bool.false_eq_true, Bool.true_eq_false, Bool.false_bne, Bool.true_bne, Bool.not_true, Bool.not_false, Bool.not_not, List.reverse_cons, List.reverse_nil, Option.map_some, Option.map_none, up_same, uSet, atI_zero, atI_one, ixN_20, ixN_zero, List.set_cons_zero, uPow, z_0, z_1, z_2, z_3, z_4, z_5, z_6, z_7, z_8, z_9, z_10, z_11, z_12, z_13, z_14, z_15, z_16, true_and, t1__law_deed, cl__law_deed, uLen, List.length_map]
    refine ⟨p, g, _, rfl, hP3, by omega, by omega, fun w G4 w0 w1 hP4 f4 => fin.of ?_⟩
    exact q (.cut ns lo (lo + w)) G4 ⟨hns.1, hns.2, lo0, by omega, by omega⟩ hP4 ((f2.trans f3).trans f4)
  · -- joined
    simp only [trSs, trS, trE, trT, trX, pl, trA, trO, trC, trI, uBin_s, uUn_s, uVar_s, uC_s, getS, setS, uOp, uAdd, uSub, uMul, uDiv, uMod, uPow, uNeg, uCmp, uEqF, uLt, uLe, uGt, uGe, uIsF, isNonU, uTru, Blt.fn, uAbs, uMax2, uMin2, uInt, startU, gam_fn, gam_gl, tab_xcs, tab_sub, UD_nx, UD_rt, UD_bk, UD_ct, UD_ex, spAt, glAt, gls, List.map_cons, List.map_nil, List.cons_append, List.nil_append, List.length_cons, List.length_nil, List.replicate, Nat.reduceAdd, Nat.reduceSub, Nat.zero_add, reduceIte, Bool.false_eq_true, Bool.true_eq_false, Bool.false_bne, Bool.true_bne, Bool.not_true, Bool.not_false, Bool.not_not, List.reverse_cons, List.reverse_nil, Option.map_some, Option.map_none, up_same, uSet, atI_zero, atI_one, ixN_20, ixN_zero, List.set_cons_zero, uPow, z_0, z_1, z_2, z_3, z_4, z_5, z_6, z_7, z_8, z_9, z_10, z_11, z_12, z_13, z_14, z_15, z_16, true_and, t9__law_deed, s1, t8__law_deed, s12, t7__law_deed, s13]
    refine st6 "joined" fun nss' ra G4 h1 h2 h3 h4 h5 hP4 f4 => ?_
    simp only [trSs, trS, trE, trT, trX, pl, trA, trO, trC, trI, uBin_s, uUn_s, uVar_s, uC_s, getS, setS, uOp, uAdd, uSub, uMul, uDiv, uMod, uPow, uNeg, uCmp, uEqF, uLt, uLe, uGt, uGe, uIsF, isNonU, uTru, Blt.fn, uAbs, uMax2, uMin2, uInt, startU, gam_fn, gam_gl, tab_xcs, tab_sub, UD_nx, UD_rt, UD_bk, UD_ct, UD_ex, spAt, glAt, gls, List.map_cons, List.map_nil, List.cons_append, List.nil_append, List.length_cons, List.length_nil, List.replicate, Nat.reduceAdd, Nat.reduceSub, Nat.zero_add, reduceIte, Bool.false_eq_true, Bool.true_eq_false, Bool.false_bne, Bool.true_bne, Bool.not_true, Bool.not_false, Bool.not_not, List.reverse_cons, List.reverse_nil, Option.map_some, Option.map_none, up_same, uSet, atI_zero, atI_one, ixN_20, ixN_zero, List.set_cons_zero, uPow, z_0, z_1, z_2, z_3, z_4, z_5, z_6, z_7, z_8, z_9, z_10, z_11, z_12, z_13, z_14, z_15, z_16, true_and, t5__law_deed, decide_true, uTuple, h3]
    exact fin.of (q (.joined nss') G4 ⟨h4, by omega⟩ hP4 f4)
  · -- mixed
    simp only [trSs, trS, trE, trT, trX, pl, trA, trO, trC, trI, uBin_s, uUn_s, uVar_s, uC_s, getS, setS, uOp, uAdd, uSub, uMul, uDiv, uMod, uPow, uNeg, uCmp, uEqF, uLt, uLe, uGt, uGe, uIsF, isNonU, uTru, Blt.fn, uAbs, uMax2, uMin2, uInt, startU, gam_fn, gam_gl, tab_xcs, tab_sub, UD_nx, UD_rt, UD_bk, UD_ct, UD_ex, spAt, glAt, gls, List.map_cons, List.map_nil, List.cons_append, List.nil_append, List.length_cons, List.length_nil, List.replicate, Nat.reduceAdd, Nat.reduceSub, Nat.zero_add, reduceIte, Bool.false_eq_true, Bool.true_eq_false, Bool.false_bne, Bool.true_bne, Bool.not_true, Bool.not_false, Bool.not_not, List.reverse_cons, List.reverse_nil, Option.map_some, Option.map_none, up_same, uSet, atI_zero, atI_one, ixN_20, ixN_zero, List.set_cons_zero, uPow, z_0, z_1, z_2, z_3, z_4, z_5, z_6, z_7, z_8, z_9, z_10, z_11, z_12, z_13, z_14, z_15, z_16, true_and, t9__law_deed, s2, t8__law_deed, s14, t7__law_deed, s15]
    refine st6 "mixed" fun nss' ra G4 h1 h2 h3 h4 h5 hP4 f4 => ?_
    simp only [trSs, trS, trE, trT, trX, pl, trA, trO, trC, trI, uBin_s, uUn_s, uVar_s, uC_s, getS, setS, uOp, uAdd, uSub, uMul, uDiv, uMod, uPow, uNeg, uCmp, uEqF, uLt, uLe, uGt, uGe, uIsF, isNonU, uTru, Blt.fn, uAbs, uMax2, uMin2, uInt, startU, gam_fn, gam_gl, tab_xcs, tab_sub, UD_nx, UD_rt, UD_bk, UD_ct, UD_ex, spAt, glAt, gls, List.map_cons, List.map_nil, List.cons_append, List.nil_append, List.length_cons, List.length_nil, List.replicate, Nat.reduceAdd, Nat.reduceSub, Nat.zero_add, reduceIte, Bool.false_eq_true, Bool.true_eq_false, Bool.false_bne, Bool.true_bne, Bool.not_true, Bool.not_false, Bool.not_not, List.reverse_cons, List.reverse_nil, Option.map_some, Option.map_none, up_same, uSet, atI_zero, atI_one, ixN_20, ixN_zero, List.set_cons_zero, uPow, z_0, z_1, z_2, z_3, z_4, z_5, z_6, z_7, z_8, z_9, z_10, z_11, z_12, z_13, z_14, z_15, z_16, true_and, t5__law_deed, s5, t4__law_deed, seqOf, h3]
    intro rp hrp
    have hn := hP4.ne hrp
    have hnr : ra ≠ rp := fun z => by subst z; rw [hrp] at h3; cases h3
    refine lcU_accD (fun G5 => Pur G5 p g ∧ Fr p g G4 G5 ∧ G5 ra = some (.lst (nss'.map sndU))) (fun u => ∃ q : Part, u = partU q ∧ (okPart q ∧ q.2 ≤ 4000 ∧ q.1.length ≤ 90)) (ds := [(ra, nss'.map sndU)]) (fun G5 h => (show depsOk G5 [(ra, nss'.map sndU)] from ⟨h.2.2, trivial⟩)) (fun G5 acc h => ⟨h.1.upn hn.1 hn.2, Fr.up_new hrp h.2.1, by rw [up_ne hnr]; exact h.2.2⟩) nss'.length (by omega) ?_ _ [] _ (by rw [List.length_map]; simp) ⟨hP4.upf hrp, Fr.of_le (.new hrp), by rw [up_ne hnr]; exact h3⟩ up_same (by simp) ?_
    · intro G5 us hI hus hB hl5
      obtain ⟨ps, rfl, hx⟩ := parts_of hB
      rw [List.length_map] at hl5
      obtain ⟨hP5, f5, e5⟩ := hI
      have f5 := f4.trans f5
      -- the last row
      have st2 : ∀ (ps : List Part) (rp : Addr) (G6 : UH), ps.length ≤ 6 → (∀ q ∈ ps, okPart q ∧ q.2 ≤ 4000 ∧ q.1.length ≤ 90) → G6 rp = some (.lst (ps.map partU)) → Pur G6 p g → Fr p g G G6 → trSs (TB cl__law_deed) (GM cl__law_deed) t2__law_deed (UD Q E) [some (.ref p), some (.ref sh), some (.str "mixed"), some (sndU ns), none, some (.ref ra), none, some (.ref rp), none] G6 := by
        intro ps rp G6 hl6 hx h6 hP6 f6
        simp only [trSs, trS, trE, trT, trX, pl, trA, trO, trC, trI, uBin_s, uUn_s, uVar_s, uC_s, getS, setS, uOp, uAdd, uSub, uMul, uDiv, uMod, uPow, uNeg, uCmp, uEqF, uLt, uLe, uGt, uGe, uIsF, isNonU, uTru, Blt.fn, uAbs, uMax2, uMin2, uInt, startU, gam_fn, gam_gl, tab_xcs, tab_sub, UD_nx, UD_rt, UD_bk, UD_ct, UD_ex, spAt, glAt, gls, List.map_cons, List.map_nil, List.cons_append, List.nil_append, List.length_cons, List.length_nil, List.replicate, Nat.reduceAdd, Nat.reduceSub, Nat.zero_add, reduceIte, Bool.false_eq_true, Bool.true_eq_false, Bool.false_bne, Bool.true_bne, Bool.not_true, Bool.not_false, Bool.not_not, List.reverse_cons, List.reverse_nil, Option.map_some, Option.map_none, up_same, uSet, atI_zero, atI_one, ixN_20, ixN_zero, List.set_cons_zero, uPow, z_0, z_1, z_2, z_3, z_4, z_5, z_6, z_7, z_8, z_9, z_10, z_11, z_12, z_13, z_14, z_15, z_16, true_and, t2__law_deed, uTuple, h6]
        exact fin.of (q (.mixed ps) G6 ⟨hx, by omega⟩ hP6 f6)
      simp only [trSs, trS, trE, trT, trX, pl, trA, trO, trC, trI, uBin_s, uUn_s, uVar_s, uC_s, getS, setS, uOp, uAdd, uSub, uMul, uDiv, uMod, uPow, uNeg, uCmp, uEqF, uLt, uLe, uGt, uGe, uIsF, isNonU, uTru, Blt.fn, uAbs, uMax2, uMin2, uInt, startU, gam_fn, gam_gl, tab_xcs, tab_sub, UD_nx, UD_rt, UD_bk, UD_ct, UD_ex, spAt, glAt, gls, List.map_cons, List.map_nil, List.cons_append, List.nil_append, List.length_cons, List.length_nil, List.replicate, Nat.reduceAdd, Nat.reduceSub, Nat.zero_add, reduceIte, Bool.false_eq_true, Bool.true_eq_false, Bool.false_bne, Bool.true_bne, Bool.not_true, Bool.not_false, Bool.not_not, List.reverse_cons, List.reverse_nil, Option.map_some, Option.map_none, up_same, uSet, atI_zero, atI_one, ixN_20, ixN_zero, List.set_cons_zero, uPow, z_0, z_1, z_2, z_3, z_4, z_5, z_6, z_7, z_8, z_9, z_10, z_11, z_12, z_13, z_14, z_15, z_16, true_and, t3__law_deed, uLen, hus, List.length_map, cl__law_deed]
      by_cases c0 : (0 : Int) < (ps.length : Int)
      · simp only [trSs, trS, trE, trT, trX, pl, trA, trO, trC, trI, uBin_s, uUn_s, uVar_s, uC_s, getS, setS, uOp, uAdd, uSub, uMul, uDiv, uMod, uPow, uNeg, uCmp, uEqF, uLt, uLe, uGt, uGe, uIsF, isNonU, uTru, Blt.fn, uAbs, uMax2, uMin2, uInt, startU, gam_fn, gam_gl, tab_xcs, tab_sub, UD_nx, UD_rt, UD_bk, UD_ct, UD_ex, spAt, glAt, gls, List.map_cons, List.map_nil, List.cons_append, List.nil_append, List.length_cons, List.length_nil, List.replicate, Nat.reduceAdd, Nat.reduceSub, Nat.zero_add, reduceIte, Bool.false_eq_true, Bool.true_eq_false, Bool.false_bne, Bool.true_bne, Bool.not_true, Bool.not_false, Bool.not_not, List.reverse_cons, List.reverse_nil, Option.map_some, Option.map_none, up_same, uSet, atI_zero, atI_one, ixN_20, ixN_zero, List.set_cons_zero, uPow, z_0, z_1, z_2, z_3, z_4, z_5, z_6, z_7, z_8, z_9, z_10, z_11, z_12, z_13, z_14, z_15, z_16, true_and, c0, decide_true]
        refine ⟨p, g, 20, rfl, hP5, by decide, by decide, fun c3 G6 c30 c31 hP6 f6 => ?_⟩
        have e6 := f6 _ _ h1.symm h2.symm e5
        have u6 := f6 _ _ hn.1.symm hn.2.symm hus
        have f6 := f5.trans f6
        by_cases cc : c3 = 0
        · cases nss' with
          | nil => rw [List.length_nil] at hl5; omega
          | cons n0 nr =>
            have g0 := h4 n0 List.mem_cons_self
            simp only [trSs, trS, trE, trT, trX, pl, trA, trO, trC, trI, uBin_s, uUn_s, uVar_s, uC_s, getS, setS, uOp, uAdd, uSub, uMul, uDiv, uMod, uPow, uNeg, uCmp, uEqF, uLt, uLe, uGt, uGe, uIsF, isNonU, uTru, Blt.fn, uAbs, uMax2, uMin2, uInt, startU, gam_fn, gam_gl, tab_xcs, tab_sub, UD_nx, UD_rt, UD_bk, UD_ct, UD_ex, spAt, glAt, gls, List.map_cons, List.map_nil, List.cons_append, List.nil_append, List.length_cons, List.length_nil, List.replicate, Nat.reduceAdd, Nat.reduceSub, Nat.zero_add, reduceIte, Bool.false_eq_true, Bool.true_eq_false, Bool.false_bne, Bool.true_bne, Bool.not_true, Bool.not_false, Bool.not_not, List.reverse_cons, List.reverse_nil, Option.map_some, Option.map_none, up_same, uSet, atI_zero, atI_one, ixN_20, ixN_zero, List.set_cons_zero, uPow, z_0, z_1, z_2, z_3, z_4, z_5, z_6, z_7, z_8, z_9, z_10, z_11, z_12, z_13, z_14, z_15, z_16, true_and, cc, decide_true, trG, uIx, e6, sndU]
            intro r5 hr5
            have l5 := Le.new hr5 (o := .lst [.tup [sndU n0, .int 4000]])
            have u5 : UL.up G6 r5 (.lst [.tup [sndU n0, .int 4000]]) r5 = some (.lst [.tup [sndU n0, .int 4000]]) := up_same
            have u6 := l5 _ _ u6
            have hP7 := hP6.le l5
            have f7 := f6.trans (Fr.of_le l5)
            generalize UL.up G6 r5 _ = G7 at u5 u6 hP7 f7 ⊢
            simp only [trSs, trS, trE, trT, trX, pl, trA, trO, trC, trI, uBin_s, uUn_s, uVar_s, uC_s, getS, setS, uOp, uAdd, uSub, uMul, uDiv, uMod, uPow, uNeg, uCmp, uEqF, uLt, uLe, uGt, uGe, uIsF, isNonU, uTru, Blt.fn, uAbs, uMax2, uMin2, uInt, startU, gam_fn, gam_gl, tab_xcs, tab_sub, UD_nx, UD_rt, UD_bk, UD_ct, UD_ex, spAt, glAt, gls, List.map_cons, List.map_nil, List.cons_append, List.nil_append, List.length_cons, List.length_nil, List.replicate, Nat.reduceAdd, Nat.reduceSub, Nat.zero_add, reduceIte, Bool.false_eq_true, Bool.true_eq_false, Bool.false_bne, Bool.true_bne, Bool.not_true, Bool.not_false, Bool.not_not, List.reverse_cons, List.reverse_nil, Option.map_some, Option.map_none, up_same, uSet, atI_zero, atI_one, ixN_20, ixN_zero, List.set_cons_zero, uPow, z_0, z_1, z_2, z_3, z_4, z_5, z_6, z_7, z_8, z_9, z_10, z_11, z_12, z_13, z_14, z_15, z_16, true_and, uSl, u6]
            intro r6 hr6
            have l6 := Le.new hr6 (o := .lst (cutU (ps.map partU) none (some 1)))
            have w6 : UL.up G7 r6 (.lst (cutU (ps.map partU) none (some 1))) r6 = some (.lst (cutU (ps.map partU) none (some 1))) := up_same
            have u5 := l6 _ _ u5
            have hP8 := hP7.le l6
            have f8 := f7.trans (Fr.of_le l6)
            generalize UL.up G7 r6 _ = G8 at u5 w6 hP8 f8 ⊢
            have ec : cutU (ps.map partU) none (some 1) = (ps.take 1).map partU := by
              show ((ps.map partU).drop 0).take (min (1 : Int).toNat (ps.map partU).length - 0) = _
              rw [List.drop_zero, Nat.sub_zero, List.length_map, ← List.map_take]
              congr 1
              rw [show min (1 : Int).toNat ps.length = 1 by simp only [Int.toNat_one]; omega]
            rw [ec] at w6
            simp only [trSs, trS, trE, trT, trX, pl, trA, trO, trC, trI, uBin_s, uUn_s, uVar_s, uC_s, getS, setS, uOp, uAdd, uSub, uMul, uDiv, uMod, uPow, uNeg, uCmp, uEqF, uLt, uLe, uGt, uGe, uIsF, isNonU, uTru, Blt.fn, uAbs, uMax2, uMin2, uInt, startU, gam_fn, gam_gl, tab_xcs, tab_sub, UD_nx, UD_rt, UD_bk, UD_ct, UD_ex, spAt, glAt, gls, List.map_cons, List.map_nil, List.cons_append, List.nil_append, List.length_cons, List.length_nil, List.replicate, Nat.reduceAdd, Nat.reduceSub, Nat.zero_add, reduceIte, Bool.false_eq_true, Bool.true_eq_false, Bool.false_bne, Bool.true_bne, Bool.not_true, Bool.not_false, Bool.not_not, List.reverse_cons, List.reverse_nil, Option.map_some, Option.map_none, up_same, uSet, atI_zero, atI_one, ixN_20, ixN_zero, List.set_cons_zero, uPow, z_0, z_1, z_2, z_3, z_4, z_5, z_6, z_7, z_8, z_9, z_10, z_11, z_12, z_13, z_14, z_15, z_16, true_and, u5, w6]
            try rw [ec]
            refine ⟨by rw [List.length_map, List.length_take]; omega, fun r7 hr7 => ?_⟩
            refine st2 ((n0, 4000) :: ps.take 1) r7 _ (by simp; omega) (fun q hq => ?_) up_same (hP8.upf hr7) (f8.trans (Fr.of_le (.new hr7)))
            rw [List.mem_cons] at hq
            rcases hq with rfl | hq
            · exact ⟨⟨g0.1, show (0 : Int) ≤ 4000 by decide, by have := g0.2; show (4000 : Int) + (n0.length : Int) ≤ 100000; omega⟩, Int.le_refl _, g0.2⟩
            · exact hx q (List.mem_of_mem_take hq)
        · simp only [trSs, trS, trE, trT, trX, pl, trA, trO, trC, trI, uBin_s, uUn_s, uVar_s, uC_s, getS, setS, uOp, uAdd, uSub, uMul, uDiv, uMod, uPow, uNeg, uCmp, uEqF, uLt, uLe, uGt, uGe, uIsF, isNonU, uTru, Blt.fn, uAbs, uMax2, uMin2, uInt, startU, gam_fn, gam_gl, tab_xcs, tab_sub, UD_nx, UD_rt, UD_bk, UD_ct, UD_ex, spAt, glAt, gls, List.map_cons, List.map_nil, List.cons_append, List.nil_append, List.length_cons, List.length_nil, List.replicate, Nat.reduceAdd, Nat.reduceSub, Nat.zero_add, reduceIte, Bool.false_eq_true, Bool.true_eq_false, Bool.false_bne, Bool.true_bne, Bool.not_true, Bool.not_false, Bool.not_not, List.reverse_cons, List.reverse_nil, Option.map_some, Option.map_none, up_same, uSet, atI_zero, atI_one, ixN_20, ixN_zero, List.set_cons_zero, uPow, z_0, z_1, z_2, z_3, z_4, z_5, z_6, z_7, z_8, z_9, z_10, z_11, z_12, z_13, z_14, z_15, z_16, true_and, cc, decide_false]
          exact st2 ps rp G6 (by omega) hx u6 hP6 f6
      · simp only [trSs, trS, trE, trT, trX, pl, trA, trO, trC, trI, uBin_s, uUn_s, uVar_s, uC_s, getS, setS, uOp, uAdd, uSub, uMul, uDiv, uMod, uPow, uNeg, uCmp, uEqF, uLt, uLe, uGt, uGe, uIsF, isNonU, uTru, Blt.fn, uAbs, uMax2, uMin2, uInt, startU, gam_fn, gam_gl, tab_xcs, tab_sub, UD_nx, UD_rt, UD_bk, UD_ct, UD_ex, spAt, glAt, gls, List.map_cons, List.map_nil, List.cons_append, List.nil_append, List.length_cons, List.length_nil, List.replicate, Nat.reduceAdd, Nat.reduceSub, Nat.zero_add, reduceIte, Bool.false_eq_true, Bool.true_eq_false, Bool.false_bne, Bool.true_bne, Bool.not_true, Bool.not_false, Bool.not_not, List.reverse_cons, List.reverse_nil, Option.map_some, Option.map_none, up_same, uSet, atI_zero, atI_one, ixN_20, ixN_zero, List.set_cons_zero, uPow, z_0, z_1, z_2, z_3, z_4, z_5, z_6, z_7, z_8, z_9, z_10, z_11, z_12, z_13, z_14, z_15, z_16, true_and, c0, decide_false]
        exact st2 ps rp G5 (by omega) hx hus hP5 f5
    · intro y hy acc G5 K1 K0 hI hacc kk
      obtain ⟨ns', hn', rfl⟩ := List.mem_map.mp hy
      have g0 := h4 ns' hn'
      simp only [trSs, trS, trE, trT, trX, pl, trA, trO, trC, trI, uBin_s, uUn_s, uVar_s, uC_s, getS, setS, uOp, uAdd, uSub, uMul, uDiv, uMod, uPow, uNeg, uCmp, uEqF, uLt, uLe, uGt, uGe, uIsF, isNonU, uTru, Blt.fn, uAbs, uMax2, uMin2, uInt, startU, gam_fn, gam_gl, tab_xcs, tab_sub, UD_nx, UD_rt, UD_bk, UD_ct, UD_ex, spAt, glAt, gls, List.map_cons, List.map_nil, List.cons_append, List.nil_append, List.length_cons, List.length_nil, List.replicate, Nat.reduceAdd, Nat.reduceSub, Nat.zero_add, reduceIte, Bool.false_eq_true, Bool.true_eq_false, Bool.false_bne, Bool.true_bne, Bool.not_true, Bool.not_false, Bool.not_not, List.reverse_cons, List.reverse_nil, Option.map_some, Option.map_none, up_same, uSet, atI_zero, atI_one, ixN_20, ixN_zero, List.set_cons_zero, uPow, z_0, z_1, z_2, z_3, z_4, z_5, z_6, z_7, z_8, z_9, z_10, z_11, z_12, z_13, z_14, z_15, z_16, true_and, slotsG, slotsGs, wipeU, trG, cl__law_deed]
      refine ⟨p, g, 15, rfl, hI.1, by decide, by decide, fun c3 G6 c30 c31 hP6 f6 => ?_⟩
      exact kk _ _ ⟨(ns', c3), rfl, ⟨g0.1, c30, by have := g0.2; show c3 + (ns'.length : Int) ≤ 100000; omega⟩, by show c3 ≤ 4000; omega, g0.2⟩ ⟨hP6, hI.2.1.trans f6, f6 _ _ h1.symm h2.symm hI.2.2⟩ (f6 _ _ hn.1.symm hn.2.symm hacc)
  · -- faded
    simp only [trSs, trS, trE, trT, trX, pl, trA, trO, trC, trI, uBin_s, uUn_s, uVar_s, uC_s, getS, setS, uOp, uAdd, uSub, uMul, uDiv, uMod, uPow, uNeg, uCmp, uEqF, uLt, uLe, uGt, uGe, uIsF, isNonU, uTru, Blt.fn, uAbs, uMax2, uMin2, uInt, startU, gam_fn, gam_gl, tab_xcs, tab_sub, UD_nx, UD_rt, UD_bk, UD_ct, UD_ex, spAt, glAt, gls, List.map_cons, List.map_nil, List.cons_append, List.nil_append, List.length_cons, List.length_nil, List.replicate, Nat.reduceAdd, Nat.reduceSub, Nat.zero_add, reduceIte, Bool.false_eq_true, Bool.true_eq_false, Bool.false_bne, Bool.true_bne, Bool.not_true, Bool.not_false, Bool.not_not, List.reverse_cons, List.reverse_nil, Option.map_some, Option.map_none, up_same, uSet, atI_zero, atI_one, ixN_20, ixN_zero, List.set_cons_zero, uPow, z_0, z_1, z_2, z_3, z_4, z_5, z_6, z_7, z_8, z_9, z_10, z_11, z_12, z_13, z_14, z_15, z_16, true_and, t9__law_deed, s3, t8__law_deed, decide_true, cl__law_deed]
    refine ⟨p, g, rfl, hP2, fun ps G3 h1 h2 h3 hP3 f3 => fin.of ?_⟩
    exact q (.faded ns ps) G3 ⟨hns.1, hns.2, h1, h2, h3⟩ hP3 (f2.trans f3)
  · -- back
    simp only [trSs, trS, trE, trT, trX, pl, trA, trO, trC, trI, uBin_s, uUn_s, uVar_s, uC_s, getS, setS, uOp, uAdd, uSub, uMul, uDiv, uMod, uPow, uNeg, uCmp, uEqF, uLt, uLe, uGt, uGe, uIsF, isNonU, uTru, Blt.fn, uAbs, uMax2, uMin2, uInt, startU, gam_fn, gam_gl, tab_xcs, tab_sub, UD_nx, UD_rt, UD_bk, UD_ct, UD_ex, spAt, glAt, gls, List.map_cons, List.map_nil, List.cons_append, List.nil_append, List.length_cons, List.length_nil, List.replicate, Nat.reduceAdd, Nat.reduceSub, Nat.zero_add, reduceIte, Bool.false_eq_true, Bool.true_eq_false, Bool.false_bne, Bool.true_bne, Bool.not_true, Bool.not_false, Bool.not_not, List.reverse_cons, List.reverse_nil, Option.map_some, Option.map_none, up_same, uSet, atI_zero, atI_one, ixN_20, ixN_zero, List.set_cons_zero, uPow, z_0, z_1, z_2, z_3, z_4, z_5, z_6, z_7, z_8, z_9, z_10, z_11, z_12, z_13, z_14, z_15, z_16, true_and, t9__law_deed, s4, t8__law_deed, s10, t7__law_deed, decide_true]
    exact fin.of (q (.back ns) G2 hns hP2 f2)
end K79
set_option Elab.async false
set_option linter.all false
set_option autoImplicit false
set_option maxRecDepth 100000
set_option maxHeartbeats 4000000
namespace K79
open PySem PySem.Spec L2 UL
theorem clip_W (v : Int) : -1048575 ≤ clipI v ∧ clipI v ≤ 1048575 := by
  unfold clipI
  omega
theorem fad_W (ps : List (Int × Int)) : ∀ (ns : List Int) (i : Nat), Wd1 (fadI ps i ns)
  | [], _ => by intro x hx; cases hx
  | n :: ns, i => by
    intro x hx
    rw [fadI, List.mem_cons] at hx
    rcases hx with rfl | hx
    · exact clip_W _
    · exact fad_W ps ns (i + 1) x hx
theorem due_W {d : Deed} (h : d.ok) : Wd1 d.due := by
  cases d with
  | cut ns lo hi => exact fun x hx => h.1 x (List.mem_of_mem_drop (List.mem_of_mem_take hx))
  | joined nss =>
    intro x hx
    obtain ⟨ns, hn, hx⟩ := List.mem_flatten.mp hx
    exact (h.1 ns hn).1 x hx
  | mixed ps =>
    intro x hx
    obtain ⟨j, _, rfl⟩ := List.mem_map.mp hx
    exact clip_W _
  | faded ns ps => exact fad_W ps ns 0
  | back ns => exact fun x hx => h.1 x (List.mem_reverse.mp hx)
/-! ### law -/
def spLaw : USp := fun us G Q _ => ∃ ns : List Int, us = [.rol (ns.map U.int)] ∧ ns.length ≤ 63 ∧ ∀ G', Q (.bl true) G'
def cl_law : List (Str × USp) := [("_law_purse", sp__law_purse), ("_law_pick", sp__law_pick), ("_law_sound", sp__law_sound), ("_law_deed", sp__law_deed), ("_law_due", sp__law_due), ("_law_told", sp__law_told), ("_law_is_sound", sp__law_is_sound), ("_law_bad_deeds", sp__law_bad_deeds), ("_law_refused", sp__law_refused)]
structure Shelf (p g sh : Addr) (nss : List (List Int)) (G : UH) : Prop where
  pur : Pur G p g
  np : p ≠ sh
  ng : g ≠ sh
  at_ : G sh = some (.lst (nss.map sndU))
  good : ∀ ns ∈ nss, goodS ns
  ne : nss ≠ []
def SetB (a b : U) : Prop := ∃ d : Deed, d.ok ∧ a = d.u ∧ b = sndU d.due
theorem Shelf.le {p g sh : Addr} {nss : List (List Int)} {G G' : UH} (h : Shelf p g sh nss G) (l : Le G G') : Shelf p g sh nss G' := ⟨h.pur.le l, h.np, h.ng, l _ _ h.at_, h.good, h.ne⟩
theorem Shelf.fr {p g sh : Addr} {nss : List (List Int)} {G G' : UH} (h : Shelf p g sh nss G) (hP : Pur G' p g) (f : Fr p g G G') : Shelf p g sh nss G' := ⟨hP, h.np, h.ng, f _ _ h.np.symm h.ng.symm h.at_, h.good, h.ne⟩
theorem isNon_u (d : Deed) : isNonU d.u = false := by cases d <;> rfl
theorem l1_law' {p g sh : Addr} {u0 : Option U} (D : UE)
    (qn : ∀ o3 a b o6 o7 o8 o9 nss G, SetB a b → Shelf p g sh nss G → D.nx [u0, some (.ref p), some (.ref sh), o3, some a, some b, o6, o7, o8, o9] G) :
    ∀ (ks : List Int) (o3 : Option U) (a b : U) (o6 o7 o8 o9 : Option U) (nss : List (List Int)) (G : UH), (SetB a b ∨ (a = .non ∧ ks ≠ [])) → nss.length + ks.length ≤ 20 → Shelf p g sh nss G →
    forU [] (trG (.nm 3)) (trSs (TB cl_law) (GM cl_law) l1_law) D (List.map U.int ks) [u0, some (.ref p), some (.ref sh), o3, some a, some b, o6, o7, o8, o9] G
  | [], o3, a, b, o6, o7, o8, o9, nss, G, hs, hl, S => ⟨trivial, qn _ _ _ _ _ _ _ nss G (hs.resolve_right fun z => z.2 rfl) S⟩
  | k :: ks, o3, a, b, o6, o7, o8, o9, nss, G, hs, hl, S => by
    simp only [List.length_cons] at hl
    have next : ∀ (o3 : Option U) (a b : U) (o6 o7 o8 o9 : Option U) (nss : List (List Int)) (G : UH), SetB a b → nss.length + ks.length ≤ 20 → Shelf p g sh nss G → forU [] (trG (.nm 3)) (trSs (TB cl_law) (GM cl_law) l1_law) D (List.map U.int ks) [u0, some (.ref p), some (.ref sh), o3, some a, some b, o6, o7, o8, o9] G := fun o3 a b o6 o7 o8 o9 nss G h => l1_law' D qn ks o3 a b o6 o7 o8 o9 nss G (.inl h)
    refine ⟨trivial, ?_⟩
    show _
    generalize forU _ _ _ D (List.map U.int ks) = T at next ⊢
    have lg := line_ge
    simp only [trSs, trS, trE, trT, trX, pl, trA, trO, trC, trI, uBin_s, uUn_s, uVar_s, uC_s, getS, setS, uOp, uAdd, uSub, uMul, uDiv, uMod, uPow, uNeg, uCmp, uEqF, uLt, uLe, uGt, uGe, uIsF, isNonU, uTru, Blt.fn, uAbs, uMax2, uMin2, uInt, startU, gam_fn, gam_gl, tab_xcs, tab_sub, UD_nx, UD_rt, UD_bk, UD_ct, UD_ex, spAt, glAt, gls, List.map_cons, List.map_nil, List.cons_append, List.nil_append, List.length_cons, List.length_nil, List.replicate, Nat.reduceAdd, Nat.reduceSub, Nat.zero_add, reduceIte, Bool.false_eq_true, Bool.true_eq_false, Bool.false_bne, Bool.true_bne, Bool.not_true, Bool.not_false, Bool.not_not, List.reverse_cons, List.reverse_nil, Option.map_some, Option.map_none, up_same, uSet, atI_zero, atI_one, ixN_20, ixN_zero, List.set_cons_zero, uPow, z_0, z_1, z_2, z_3, z_4, z_5, z_6, z_7, z_8, z_9, z_10, z_11, z_12, z_13, z_14, z_15, z_16, true_and, trG, l1_law, cl_law]
    refine ⟨p, g, sh, nss, rfl, S.pur, S.np, S.ng, S.at_, S.ne, by omega, S.good, fun d G1 hd hP1 f1 => ?_⟩
    have S1 := S.fr hP1 f1
    simp only [trSs, trS, trE, trT, trX, pl, trA, trO, trC, trI, uBin_s, uUn_s, uVar_s, uC_s, getS, setS, uOp, uAdd, uSub, uMul, uDiv, uMod, uPow, uNeg, uCmp, uEqF, uLt, uLe, uGt, uGe, uIsF, isNonU, uTru, Blt.fn, uAbs, uMax2, uMin2, uInt, startU, gam_fn, gam_gl, tab_xcs, tab_sub, UD_nx, UD_rt, UD_bk, UD_ct, UD_ex, spAt, glAt, gls, List.map_cons, List.map_nil, List.cons_append, List.nil_append, List.length_cons, List.length_nil, List.replicate, Nat.reduceAdd, Nat.reduceSub, Nat.zero_add, reduceIte, Bool.false_eq_true, Bool.true_eq_false, Bool.false_bne, Bool.true_bne, Bool.not_true, Bool.not_false, Bool.not_not, List.reverse_cons, List.reverse_nil, Option.map_some, Option.map_none, up_same, uSet, atI_zero, atI_one, ixN_20, ixN_zero, List.set_cons_zero, uPow, z_0, z_1, z_2, z_3, z_4, z_5, z_6, z_7, z_8, z_9, z_10, z_11, z_12, z_13, z_14, z_15, z_16, true_and, t6_law, trG, cl_law]
    refine ⟨d, rfl, hd, fun G2 l2 => ?_⟩
    have S2 := S1.le l2
    simp only [trSs, trS, trE, trT, trX, pl, trA, trO, trC, trI, uBin_s, uUn_s, uVar_s, uC_s, getS, setS, uOp, uAdd, uSub, uMul, uDiv, uMod, uPow, uNeg, uCmp, uEqF, uLt, uLe, uGt, uGe, uIsF, isNonU, uTru, Blt.fn, uAbs, uMax2, uMin2, uInt, startU, gam_fn, gam_gl, tab_xcs, tab_sub, UD_nx, UD_rt, UD_bk, UD_ct, UD_ex, spAt, glAt, gls, List.map_cons, List.map_nil, List.cons_append, List.nil_append, List.length_cons, List.length_nil, List.replicate, Nat.reduceAdd, Nat.reduceSub, Nat.zero_add, reduceIte, Bool.false_eq_true, Bool.true_eq_false, Bool.false_bne, Bool.true_bne, Bool.not_true, Bool.not_false, Bool.not_not, List.reverse_cons, List.reverse_nil, Option.map_some, Option.map_none, up_same, uSet, atI_zero, atI_one, ixN_20, ixN_zero, List.set_cons_zero, uPow, z_0, z_1, z_2, z_3, z_4, z_5, z_6, z_7, z_8, z_9, z_10, z_11, z_12, z_13, z_14, z_15, z_16, true_and, t5_law, trG, cl_law]
    refine ⟨_, rfl, .inl ⟨d, rfl, hd, ?_⟩⟩
    have hW := W_ints (due_W hd)
    simp only [trSs, trS, trE, trT, trX, pl, trA, trO, trC, trI, uBin_s, uUn_s, uVar_s, uC_s, getS, setS, uOp, uAdd, uSub, uMul, uDiv, uMod, uPow, uNeg, uCmp, uEqF, uLt, uLe, uGt, uGe, uIsF, isNonU, uTru, Blt.fn, uAbs, uMax2, uMin2, uInt, startU, gam_fn, gam_gl, tab_xcs, tab_sub, UD_nx, UD_rt, UD_bk, UD_ct, UD_ex, spAt, glAt, gls, List.map_cons, List.map_nil, List.cons_append, List.nil_append, List.length_cons, List.length_nil, List.replicate, Nat.reduceAdd, Nat.reduceSub, Nat.zero_add, reduceIte, Bool.false_eq_true, Bool.true_eq_false, Bool.false_bne, Bool.true_bne, Bool.not_true, Bool.not_false, Bool.not_not, List.reverse_cons, List.reverse_nil, Option.map_some, Option.map_none, up_same, uSet, atI_zero, atI_one, ixN_20, ixN_zero, List.set_cons_zero, uPow, z_0, z_1, z_2, z_3, z_4, z_5, z_6, z_7, z_8, z_9, z_10, z_11, z_12, z_13, z_14, z_15, z_16, true_and, t4_law, cl_law]
    refine ⟨_, rfl, hW, ?_⟩
    -- the shelf grows
    have st2 : ∀ (a b : U), SetB a b → trSs (TB cl_law) (GM cl_law) t2_law ⟨fun s2 G2 => ∃ G3, Le G3 G2 ∧ T s2 G3, D.rt, D.nx, fun s2 G2 => ∃ G3, Le G3 G2 ∧ T s2 G3, D.ex⟩ [u0, some (.ref p), some (.ref sh), some (.int k), some a, some b, some d.u, some (sndU d.due), some (sndU d.due), o9] G2 := by
      intro a b hab
      simp only [trSs, trS, trE, trT, trX, pl, trA, trO, trC, trI, uBin_s, uUn_s, uVar_s, uC_s, getS, setS, uOp, uAdd, uSub, uMul, uDiv, uMod, uPow, uNeg, uCmp, uEqF, uLt, uLe, uGt, uGe, uIsF, isNonU, uTru, Blt.fn, uAbs, uMax2, uMin2, uInt, startU, gam_fn, gam_gl, tab_xcs, tab_sub, UD_nx, UD_rt, UD_bk, UD_ct, UD_ex, spAt, glAt, gls, List.map_cons, List.map_nil, List.cons_append, List.nil_append, List.length_cons, List.length_nil, List.replicate, Nat.reduceAdd, Nat.reduceSub, Nat.zero_add, reduceIte, Bool.false_eq_true, Bool.true_eq_false, Bool.false_bne, Bool.true_bne, Bool.not_true, Bool.not_false, Bool.not_not, List.reverse_cons, List.reverse_nil, Option.map_some, Option.map_none, up_same, uSet, atI_zero, atI_one, ixN_20, ixN_zero, List.set_cons_zero, uPow, z_0, z_1, z_2, z_3, z_4, z_5, z_6, z_7, z_8, z_9, z_10, z_11, z_12, z_13, z_14, z_15, z_16, true_and, t2_law, uLen, sndU, List.length_map]
      by_cases c : (d.due.length : Int) ≤ 90
      · simp only [trSs, trS, trE, trT, trX, pl, trA, trO, trC, trI, uBin_s, uUn_s, uVar_s, uC_s, getS, setS, uOp, uAdd, uSub, uMul, uDiv, uMod, uPow, uNeg, uCmp, uEqF, uLt, uLe, uGt, uGe, uIsF, isNonU, uTru, Blt.fn, uAbs, uMax2, uMin2, uInt, startU, gam_fn, gam_gl, tab_xcs, tab_sub, UD_nx, UD_rt, UD_bk, UD_ct, UD_ex, spAt, glAt, gls, List.map_cons, List.map_nil, List.cons_append, List.nil_append, List.length_cons, List.length_nil, List.replicate, Nat.reduceAdd, Nat.reduceSub, Nat.zero_add, reduceIte, Bool.false_eq_true, Bool.true_eq_false, Bool.false_bne, Bool.true_bne, Bool.not_true, Bool.not_false, Bool.not_not, List.reverse_cons, List.reverse_nil, Option.map_some, Option.map_none, up_same, uSet, atI_zero, atI_one, ixN_20, ixN_zero, List.set_cons_zero, uPow, z_0, z_1, z_2, z_3, z_4, z_5, z_6, z_7, z_8, z_9, z_10, z_11, z_12, z_13, z_14, z_15, z_16, true_and, c, decide_true, Mth.T, Mth.fn, mTy, uL, S2.at_]
        refine ⟨by rw [List.length_map]; omega, _, .refl _, next _ _ _ _ _ _ _ (nss ++ [d.due]) _ hab (by simp; omega) ⟨S2.pur.upn S2.np S2.ng, S2.np, S2.ng, by rw [up_same, List.map_append]; rfl, fun ns hn => ?_, by simp⟩⟩
        rw [List.mem_append] at hn
        rcases hn with hn | hn
        · exact S2.good ns hn
        · rw [List.mem_singleton.mp hn]
          exact ⟨due_W hd, by omega⟩
      · simp only [trSs, trS, trE, trT, trX, pl, trA, trO, trC, trI, uBin_s, uUn_s, uVar_s, uC_s, getS, setS, uOp, uAdd, uSub, uMul, uDiv, uMod, uPow, uNeg, uCmp, uEqF, uLt, uLe, uGt, uGe, uIsF, isNonU, uTru, Blt.fn, uAbs, uMax2, uMin2, uInt, startU, gam_fn, gam_gl, tab_xcs, tab_sub, UD_nx, UD_rt, UD_bk, UD_ct, UD_ex, spAt, glAt, gls, List.map_cons, List.map_nil, List.cons_append, List.nil_append, List.length_cons, List.length_nil, List.replicate, Nat.reduceAdd, Nat.reduceSub, Nat.zero_add, reduceIte, Bool.false_eq_true, Bool.true_eq_false, Bool.false_bne, Bool.true_bne, Bool.not_true, Bool.not_false, Bool.not_not, List.reverse_cons, List.reverse_nil, Option.map_some, Option.map_none, up_same, uSet, atI_zero, atI_one, ixN_20, ixN_zero, List.set_cons_zero, uPow, z_0, z_1, z_2, z_3, z_4, z_5, z_6, z_7, z_8, z_9, z_10, z_11, z_12, z_13, z_14, z_15, z_16, true_and, c, decide_false]
        exact ⟨_, .refl _, next _ _ _ _ _ _ _ nss _ hab (by omega) S2⟩
    rcases hs with ⟨d1, h1, rfl, rfl⟩ | ⟨rfl, _⟩
    · obtain ⟨us1, e1⟩ : ∃ us, d1.u = .tup us := by cases d1 <;> exact ⟨_, rfl⟩
      rw [e1]
      simp only [trSs, trS, trE, trT, trX, pl, trA, trO, trC, trI, uBin_s, uUn_s, uVar_s, uC_s, getS, setS, uOp, uAdd, uSub, uMul, uDiv, uMod, uPow, uNeg, uCmp, uEqF, uLt, uLe, uGt, uGe, uIsF, isNonU, uTru, Blt.fn, uAbs, uMax2, uMin2, uInt, startU, gam_fn, gam_gl, tab_xcs, tab_sub, UD_nx, UD_rt, UD_bk, UD_ct, UD_ex, spAt, glAt, gls, List.map_cons, List.map_nil, List.cons_append, List.nil_append, List.length_cons, List.length_nil, List.replicate, Nat.reduceAdd, Nat.reduceSub, Nat.zero_add, reduceIte, Bool.false_eq_true, Bool.true_eq_false, Bool.false_bne, Bool.true_bne, Bool.not_true, Bool.not_false, Bool.not_not, List.reverse_cons, List.reverse_nil, Option.map_some, Option.map_none, up_same, uSet, atI_zero, atI_one, ixN_20, ixN_zero, List.set_cons_zero, uPow, z_0, z_1, z_2, z_3, z_4, z_5, z_6, z_7, z_8, z_9, z_10, z_11, z_12, z_13, z_14, z_15, z_16, true_and, t3_law]
      exact st2 _ _ ⟨d1, h1, e1.symm, rfl⟩
    · simp only [trSs, trS, trE, trT, trX, pl, trA, trO, trC, trI, uBin_s, uUn_s, uVar_s, uC_s, getS, setS, uOp, uAdd, uSub, uMul, uDiv, uMod, uPow, uNeg, uCmp, uEqF, uLt, uLe, uGt, uGe, uIsF, isNonU, uTru, Blt.fn, uAbs, uMax2, uMin2, uInt, startU, gam_fn, gam_gl, tab_xcs, tab_sub, UD_nx, UD_rt, UD_bk, UD_ct, UD_ex, spAt, glAt, gls, List.map_cons, List.map_nil, List.cons_append, List.nil_append, List.length_cons, List.length_nil, List.replicate, Nat.reduceAdd, Nat.reduceSub, Nat.zero_add, reduceIte, Bool.false_eq_true, Bool.true_eq_false, Bool.false_bne, Bool.true_bne, Bool.not_true, Bool.not_false, Bool.not_not, List.reverse_cons, List.reverse_nil, Option.map_some, Option.map_none, up_same, uSet, atI_zero, atI_one, ixN_20, ixN_zero, List.set_cons_zero, uPow, z_0, z_1, z_2, z_3, z_4, z_5, z_6, z_7, z_8, z_9, z_10, z_11, z_12, z_13, z_14, z_15, z_16, true_and, t3_law, trG, t1_law]
      exact st2 _ _ ⟨d, hd, rfl, rfl⟩
theorem l2_law' {G : UH} {rr : Addr} {us0 : List U} {u0 u1 u2 u3 u4 u5 u7 : Option U} (h0 : G rr = some (.lst us0)) (D : UE) (qn : ∀ o6 o8 o9, D.nx [u0, u1, u2, u3, u4, u5, o6, u7, o8, o9] G) :
    ∀ (us : List U) (o6 o8 o9 : Option U), (∀ u ∈ us, ItemP G u) →
    forU [(rr, us0)] (trG (.tup (.cons (.nm 6) (.cons (.nm 9) .nil)))) (trSs (TB cl_law) (GM cl_law) l2_law) D us [u0, u1, u2, u3, u4, u5, o6, u7, o8, o9] G
  | [], o6, o8, o9, _ => ⟨⟨h0, trivial⟩, qn _ _ _⟩
  | u :: us, o6, o8, o9, h => by
    have next := fun o6 o8 o9 => l2_law' h0 D qn us o6 o8 o9 fun x hx => h x (List.mem_cons_of_mem _ hx)
    refine ⟨⟨h0, trivial⟩, ?_⟩
    generalize forU _ _ _ D us = T at next ⊢
    obtain ⟨dd, w, rfl, hb⟩ := h u List.mem_cons_self
    simp only [trSs, trS, trE, trT, trX, pl, trA, trO, trC, trI, uBin_s, uUn_s, uVar_s, uC_s, getS, setS, uOp, uAdd, uSub, uMul, uDiv, uMod, uPow, uNeg, uCmp, uEqF, uLt, uLe, uGt, uGe, uIsF, isNonU, uTru, Blt.fn, uAbs, uMax2, uMin2, uInt, startU, gam_fn, gam_gl, tab_xcs, tab_sub, UD_nx, UD_rt, UD_bk, UD_ct, UD_ex, spAt, glAt, gls, List.map_cons, List.map_nil, List.cons_append, List.nil_append, List.length_cons, List.length_nil, List.replicate, Nat.reduceAdd, Nat.reduceSub, Nat.zero_add, reduceIte, Bool.false_eq_true, Bool.true_eq_false, Bool.false_bne, Bool.true_bne, Bool.not_true, Bool.not_false, Bool.not_not, List.reverse_cons, List.reverse_nil, Option.map_some, Option.map_none, up_same, uSet, atI_zero, atI_one, ixN_20, ixN_zero, List.set_cons_zero, uPow, z_0, z_1, z_2, z_3, z_4, z_5, z_6, z_7, z_8, z_9, z_10, z_11, z_12, z_13, z_14, z_15, z_16, true_and, trG, trGs, lenG, l2_law, cl_law]
    refine ⟨dd, w, rfl, hb, ?_⟩
    simp only [trSs, trS, trE, trT, trX, pl, trA, trO, trC, trI, uBin_s, uUn_s, uVar_s, uC_s, getS, setS, uOp, uAdd, uSub, uMul, uDiv, uMod, uPow, uNeg, uCmp, uEqF, uLt, uLe, uGt, uGe, uIsF, isNonU, uTru, Blt.fn, uLen, uAbs, uMax2, uMin2, uInt, uIx, startU, gam_fn, gam_gl, tab_xcs, tab_sub, UD_nx, UD_rt, UD_bk, UD_ct, UD_ex, spAt, glAt, gls, seqOf, List.map_cons, List.map_nil, List.cons_append, List.nil_append, List.length_cons, List.length_nil, List.replicate, Nat.reduceAdd, Nat.reduceSub, Nat.zero_add, reduceIte, Bool.false_eq_true, Bool.true_eq_false, Bool.false_bne, Bool.true_bne, Bool.not_true, Bool.not_false, Bool.not_not, List.reverse_cons, List.reverse_nil, Option.map_some, Option.map_none, up_same, uTuple, uList, uSet, atI_zero, atI_one, ixN_20, ixN_zero, List.set_cons_zero, uPow, t7_law]
    refine isi_str rfl ?_
    simp only [trSs, trS, trE, trT, trX, pl, trA, trO, trC, trI, uBin_s, uUn_s, uVar_s, uC_s, getS, setS, uOp, uAdd, uSub, uMul, uDiv, uMod, uPow, uNeg, uCmp, uEqF, uLt, uLe, uGt, uGe, uIsF, isNonU, uTru, Blt.fn, uLen, uAbs, uMax2, uMin2, uInt, uIx, startU, gam_fn, gam_gl, tab_xcs, tab_sub, UD_nx, UD_rt, UD_bk, UD_ct, UD_ex, spAt, glAt, gls, seqOf, List.map_cons, List.map_nil, List.cons_append, List.nil_append, List.length_cons, List.length_nil, List.replicate, Nat.reduceAdd, Nat.reduceSub, Nat.zero_add, reduceIte, Bool.false_eq_true, Bool.true_eq_false, Bool.false_bne, Bool.true_bne, Bool.not_true, Bool.not_false, Bool.not_not, List.reverse_cons, List.reverse_nil, Option.map_some, Option.map_none, up_same, uTuple, uList, uSet, atI_zero, atI_one, ixN_20, ixN_zero, List.set_cons_zero, uPow, kS, decide_true]
    refine isi_bool rfl ?_
    simp only [trSs, trS, trE, trT, trX, pl, trA, trO, trC, trI, uBin_s, uUn_s, uVar_s, uC_s, getS, setS, uOp, uAdd, uSub, uMul, uDiv, uMod, uPow, uNeg, uCmp, uEqF, uLt, uLe, uGt, uGe, uIsF, isNonU, uTru, Blt.fn, uLen, uAbs, uMax2, uMin2, uInt, uIx, startU, gam_fn, gam_gl, tab_xcs, tab_sub, UD_nx, UD_rt, UD_bk, UD_ct, UD_ex, spAt, glAt, gls, seqOf, List.map_cons, List.map_nil, List.cons_append, List.nil_append, List.length_cons, List.length_nil, List.replicate, Nat.reduceAdd, Nat.reduceSub, Nat.zero_add, reduceIte, Bool.false_eq_true, Bool.true_eq_false, Bool.false_bne, Bool.true_bne, Bool.not_true, Bool.not_false, Bool.not_not, List.reverse_cons, List.reverse_nil, Option.map_some, Option.map_none, up_same, uTuple, uList, uSet, atI_zero, atI_one, ixN_20, ixN_zero, List.set_cons_zero, uPow, kB]
    exact ⟨_, .refl _, next _ _ _⟩
theorem w_law (us : List U) (G : UH) (Q : UK) (E : UXn → UH → Prop) (h : spLaw us G Q E) : trSs (TB cl_law) (GM cl_law) b_law (UD Q E) (startU n_law us) G := by
  obtain ⟨ns, rfl, hn, q⟩ := h
  have lg := line_ge
  simp only [trSs, trS, trE, trT, trX, pl, trA, trO, trC, trI, uBin_s, uUn_s, uVar_s, uC_s, getS, setS, uOp, uAdd, uSub, uMul, uDiv, uMod, uPow, uNeg, uCmp, uEqF, uLt, uLe, uGt, uGe, uIsF, isNonU, uTru, Blt.fn, uAbs, uMax2, uMin2, uInt, startU, gam_fn, gam_gl, tab_xcs, tab_sub, UD_nx, UD_rt, UD_bk, UD_ct, UD_ex, spAt, glAt, gls, List.map_cons, List.map_nil, List.cons_append, List.nil_append, List.length_cons, List.length_nil, List.replicate, Nat.reduceAdd, Nat.reduceSub, Nat.zero_add, reduceIte, Bool.false_eq_true, Bool.true_eq_false, Bool.false_bne, Bool.true_bne, Bool.not_true, Bool.not_false, Bool.not_not, List.reverse_cons, List.reverse_nil, Option.map_some, Option.map_none, up_same, uSet, atI_zero, atI_one, ixN_20, ixN_zero, List.set_cons_zero, uPow, z_0, z_1, z_2, z_3, z_4, z_5, z_6, z_7, z_8, z_9, z_10, z_11, z_12, z_13, z_14, z_15, z_16, true_and, b_law, n_law, trG, cl_law]
  refine ⟨ns, rfl, hn, fun p g G1 hP l1 => ?_⟩
  simp only [trSs, trS, trE, trT, trX, pl, trA, trO, trC, trI, uBin_s, uUn_s, uVar_s, uC_s, getS, setS, uOp, uAdd, uSub, uMul, uDiv, uMod, uPow, uNeg, uCmp, uEqF, uLt, uLe, uGt, uGe, uIsF, isNonU, uTru, Blt.fn, uAbs, uMax2, uMin2, uInt, startU, gam_fn, gam_gl, tab_xcs, tab_sub, UD_nx, UD_rt, UD_bk, UD_ct, UD_ex, spAt, glAt, gls, List.map_cons, List.map_nil, List.cons_append, List.nil_append, List.length_cons, List.length_nil, List.replicate, Nat.reduceAdd, Nat.reduceSub, Nat.zero_add, reduceIte, Bool.false_eq_true, Bool.true_eq_false, Bool.false_bne, Bool.true_bne, Bool.not_true, Bool.not_false, Bool.not_not, List.reverse_cons, List.reverse_nil, Option.map_some, Option.map_none, up_same, uSet, atI_zero, atI_one, ixN_20, ixN_zero, List.set_cons_zero, uPow, z_0, z_1, z_2, z_3, z_4, z_5, z_6, z_7, z_8, z_9, z_10, z_11, z_12, z_13, z_14, z_15, z_16, true_and, t13_law, cl_law]
  refine ⟨p, g, 3, rfl, hP, by decide, by decide, fun r G2 r0 r1 hP2 f2 => ?_⟩
  refine ⟨by unfold small62; omega, ?_⟩
  rw [rangeU_map]
  intro sh hsh
  have hne := hP2.ne hsh
  refine lcU_accD (fun G3 => Pur G3 p g) (fun u => ∃ ns, u = sndU ns ∧ goodS ns) (fun _ _ => depsNil) (fun G3 acc h => h.upn hne.1 hne.2) (2 + r).toNat (by omega) ?_ _ [] _ (by rw [List.length_map, rangeI_len]; simp) (hP2.upf hsh) up_same (by simp) ?_
  · intro G3 us hP3 hus hB hl3
    obtain ⟨nss, rfl, hx⟩ := snds_of hB
    rw [List.length_map] at hl3
    have hnn : nss ≠ [] := fun z => by rw [z, List.length_nil] at hl3; omega
    simp only [trSs, trS, trE, trT, trX, pl, trA, trO, trC, trI, uBin_s, uUn_s, uVar_s, uC_s, getS, setS, uOp, uAdd, uSub, uMul, uDiv, uMod, uPow, uNeg, uCmp, uEqF, uLt, uLe, uGt, uGe, uIsF, isNonU, uTru, Blt.fn, uAbs, uMax2, uMin2, uInt, startU, gam_fn, gam_gl, tab_xcs, tab_sub, UD_nx, UD_rt, UD_bk, UD_ct, UD_ex, spAt, glAt, gls, List.map_cons, List.map_nil, List.cons_append, List.nil_append, List.length_cons, List.length_nil, List.replicate, Nat.reduceAdd, Nat.reduceSub, Nat.zero_add, reduceIte, Bool.false_eq_true, Bool.true_eq_false, Bool.false_bne, Bool.true_bne, Bool.not_true, Bool.not_false, Bool.not_not, List.reverse_cons, List.reverse_nil, Option.map_some, Option.map_none, up_same, uSet, atI_zero, atI_one, ixN_20, ixN_zero, List.set_cons_zero, uPow, z_0, z_1, z_2, z_3, z_4, z_5, z_6, z_7, z_8, z_9, z_10, z_11, z_12, z_13, z_14, z_15, z_16, true_and, t12_law, trG]
    simp only [trSs, trS, trE, trT, trX, pl, trA, trO, trC, trI, uBin_s, uUn_s, uVar_s, uC_s, getS, setS, uOp, uAdd, uSub, uMul, uDiv, uMod, uPow, uNeg, uCmp, uEqF, uLt, uLe, uGt, uGe, uIsF, isNonU, uTru, Blt.fn, uAbs, uMax2, uMin2, uInt, startU, gam_fn, gam_gl, tab_xcs, tab_sub, UD_nx, UD_rt, UD_bk, UD_ct, UD_ex, spAt, glAt, gls, List.map_cons, List.map_nil, List.cons_append, List.nil_append, List.length_cons, List.length_nil, List.replicate, Nat.reduceAdd, Nat.reduceSub, Nat.zero_add, reduceIte, Bool.false_eq_true, Bool.true_eq_false, Bool.false_bne, Bool.true_bne, Bool.not_true, Bool.not_false, Bool.not_not, List.reverse_cons, List.reverse_nil, Option.map_some, Option.map_none, up_same, uSet, atI_zero, atI_one, ixN_20, ixN_zero, List.set_cons_zero, uPow, z_0, z_1, z_2, z_3, z_4, z_5, z_6, z_7, z_8, z_9, z_10, z_11, z_12, z_13, z_14, z_15, z_16, true_and, t11_law, trG]
    simp only [trSs, trS, trE, trT, trX, pl, trA, trO, trC, trI, uBin_s, uUn_s, uVar_s, uC_s, getS, setS, uOp, uAdd, uSub, uMul, uDiv, uMod, uPow, uNeg, uCmp, uEqF, uLt, uLe, uGt, uGe, uIsF, isNonU, uTru, Blt.fn, uAbs, uMax2, uMin2, uInt, startU, gam_fn, gam_gl, tab_xcs, tab_sub, UD_nx, UD_rt, UD_bk, UD_ct, UD_ex, spAt, glAt, gls, List.map_cons, List.map_nil, List.cons_append, List.nil_append, List.length_cons, List.length_nil, List.replicate, Nat.reduceAdd, Nat.reduceSub, Nat.zero_add, reduceIte, Bool.false_eq_true, Bool.true_eq_false, Bool.false_bne, Bool.true_bne, Bool.not_true, Bool.not_false, Bool.not_not, List.reverse_cons, List.reverse_nil, Option.map_some, Option.map_none, up_same, uSet, atI_zero, atI_one, ixN_20, ixN_zero, List.set_cons_zero, uPow, z_0, z_1, z_2, z_3, z_4, z_5, z_6, z_7, z_8, z_9, z_10, z_11, z_12, z_13, z_14, z_15, z_16, true_and, t10_law, cl_law]
    refine ⟨p, g, 6, rfl, hP3, by decide, by decide, fun r2 G4 r20 r21 hP4 f4 => ?_⟩
    have S : Shelf p g sh nss G4 := ⟨hP4, hne.1, hne.2, f4 _ _ hne.1.symm hne.2.symm hus, hx, hnn⟩
    refine ⟨by unfold small62; omega, ?_⟩
    rw [rangeU_map]
    refine l1_law' _ (fun o3 a b o6 o7 o8 o9 nss G5 hab S => ?_) _ none .non (.tup []) none none none none nss G4 (.inr ⟨rfl, fun z => ?_⟩) (by rw [rangeI_len]; omega) S
    · obtain ⟨n0, nr, rfl⟩ : ∃ n0 nr, nss = n0 :: nr := by
        cases nss with
        | nil => exact absurd rfl S.ne
        | cons n0 nr => exact ⟨n0, nr, rfl⟩
      obtain ⟨d, hd, rfl, rfl⟩ := hab
      have g0 := S.good n0 List.mem_cons_self
      simp only [trSs, trS, trE, trT, trX, pl, trA, trO, trC, trI, uBin_s, uUn_s, uVar_s, uC_s, getS, setS, uOp, uAdd, uSub, uMul, uDiv, uMod, uPow, uNeg, uCmp, uEqF, uLt, uLe, uGt, uGe, uIsF, isNonU, uTru, Blt.fn, uLen, uAbs, uMax2, uMin2, uInt, uIx, startU, gam_fn, gam_gl, tab_xcs, tab_sub, UD_nx, UD_rt, UD_bk, UD_ct, UD_ex, spAt, glAt, gls, seqOf, List.map_cons, List.map_nil, List.cons_append, List.nil_append, List.length_cons, List.length_nil, List.replicate, Nat.reduceAdd, Nat.reduceSub, Nat.zero_add, reduceIte, Bool.false_eq_true, Bool.true_eq_false, Bool.false_bne, Bool.true_bne, Bool.not_true, Bool.not_false, Bool.not_not, List.reverse_cons, List.reverse_nil, Option.map_some, Option.map_none, up_same, uTuple, uList, uSet, atI_zero, atI_one, ixN_20, ixN_zero, List.set_cons_zero, uPow, t9_law, cl_law, S.at_]
      refine ⟨p, g, n0, rfl, S.pur, g0.1, g0.2, fun rr us G6 R => ?_⟩
      simp only [trSs, trS, trE, trT, trX, pl, trA, trO, trC, trI, uBin_s, uUn_s, uVar_s, uC_s, getS, setS, uOp, uAdd, uSub, uMul, uDiv, uMod, uPow, uNeg, uCmp, uEqF, uLt, uLe, uGt, uGe, uIsF, isNonU, uTru, Blt.fn, uLen, uAbs, uMax2, uMin2, uInt, uIx, startU, gam_fn, gam_gl, tab_xcs, tab_sub, UD_nx, UD_rt, UD_bk, UD_ct, UD_ex, spAt, glAt, gls, seqOf, List.map_cons, List.map_nil, List.cons_append, List.nil_append, List.length_cons, List.length_nil, List.replicate, Nat.reduceAdd, Nat.reduceSub, Nat.zero_add, reduceIte, Bool.false_eq_true, Bool.true_eq_false, Bool.false_bne, Bool.true_bne, Bool.not_true, Bool.not_false, Bool.not_not, List.reverse_cons, List.reverse_nil, Option.map_some, Option.map_none, up_same, uTuple, uList, uSet, atI_zero, atI_one, ixN_20, ixN_zero, List.set_cons_zero, uPow, R.at_]
      refine l2_law' R.at_ _ (fun o6 o8 o9 => ?_) us _ _ _ R.items
      simp only [trSs, trS, trE, trT, trX, pl, trA, trO, trC, trI, uBin_s, uUn_s, uVar_s, uC_s, getS, setS, uOp, uAdd, uSub, uMul, uDiv, uMod, uPow, uNeg, uCmp, uEqF, uLt, uLe, uGt, uGe, uIsF, isNonU, uTru, Blt.fn, uLen, uAbs, uMax2, uMin2, uInt, uIx, startU, gam_fn, gam_gl, tab_xcs, tab_sub, UD_nx, UD_rt, UD_bk, UD_ct, UD_ex, spAt, glAt, gls, seqOf, List.map_cons, List.map_nil, List.cons_append, List.nil_append, List.length_cons, List.length_nil, List.replicate, Nat.reduceAdd, Nat.reduceSub, Nat.zero_add, reduceIte, Bool.false_eq_true, Bool.true_eq_false, Bool.false_bne, Bool.true_bne, Bool.not_true, Bool.not_false, Bool.not_not, List.reverse_cons, List.reverse_nil, Option.map_some, Option.map_none, up_same, uTuple, uList, uSet, atI_zero, atI_one, ixN_20, ixN_zero, List.set_cons_zero, uPow, t8_law, cl_law]
      refine ⟨_, rfl, .inl ⟨d, rfl, hd, ?_⟩⟩
      exact ⟨_, rfl, W_ints (due_W hd), fin.of (q G6)⟩
    · have := congrArg List.length z
      rw [rangeI_len, List.length_nil] at this
      omega
  · intro y hy acc G3 K1 K0 hP3 hacc kk
    simp only [trSs, trS, trE, trT, trX, pl, trA, trO, trC, trI, uBin_s, uUn_s, uVar_s, uC_s, getS, setS, uOp, uAdd, uSub, uMul, uDiv, uMod, uPow, uNeg, uCmp, uEqF, uLt, uLe, uGt, uGe, uIsF, isNonU, uTru, Blt.fn, uAbs, uMax2, uMin2, uInt, startU, gam_fn, gam_gl, tab_xcs, tab_sub, UD_nx, UD_rt, UD_bk, UD_ct, UD_ex, spAt, glAt, gls, List.map_cons, List.map_nil, List.cons_append, List.nil_append, List.length_cons, List.length_nil, List.replicate, Nat.reduceAdd, Nat.reduceSub, Nat.zero_add, reduceIte, Bool.false_eq_true, Bool.true_eq_false, Bool.false_bne, Bool.true_bne, Bool.not_true, Bool.not_false, Bool.not_not, List.reverse_cons, List.reverse_nil, Option.map_some, Option.map_none, up_same, uSet, atI_zero, atI_one, ixN_20, ixN_zero, List.set_cons_zero, uPow, z_0, z_1, z_2, z_3, z_4, z_5, z_6, z_7, z_8, z_9, z_10, z_11, z_12, z_13, z_14, z_15, z_16, true_and, slotsG, slotsGs, wipeU, trG, cl_law]
    refine ⟨p, g, rfl, hP3, fun ns G4 hw hl4 hP4 f4 => kk _ _ ⟨ns, rfl, hw, by omega⟩ hP4 (f4 _ _ hne.1.symm hne.2.symm hacc)⟩
end K79
set_option Elab.async false
set_option linter.all false
set_option autoImplicit false
set_option maxRecDepth 100000
set_option maxHeartbeats 0
/-! the head (written by mkhead.py) -/
namespace K79
open PySem PySem.Spec PyProof.Rows L2 UL
def d_is_integer : He.DefD := ⟨("is_integer", none), "is_integer", "is_integer", defArgs s_is_integer, defBody s_is_integer, defScope s_is_integer, [], []⟩
def d_is_number : He.DefD := ⟨("is_number", none), "is_number", "is_number", defArgs s_is_number, defBody s_is_number, defScope s_is_number, [], []⟩
def d_is_worth : He.DefD := ⟨("is_worth", none), "is_worth", "is_worth", defArgs s_is_worth, defBody s_is_worth, defScope s_is_worth, [], []⟩
def d_is_sound : He.DefD := ⟨("is_sound", none), "is_sound", "is_sound", defArgs s_is_sound, defBody s_is_sound, defScope s_is_sound, [], []⟩
def d_is_mode : He.DefD := ⟨("is_mode", none), "is_mode", "is_mode", defArgs s_is_mode, defBody s_is_mode, defScope s_is_mode, [], []⟩
def d_is_points : He.DefD := ⟨("is_points", none), "is_points", "is_points", defArgs s_is_points, defBody s_is_points, defScope s_is_points, [], []⟩
def d_curve_at : He.DefD := ⟨("curve_at", none), "curve_at", "curve_at", defArgs s_curve_at, defBody s_curve_at, defScope s_curve_at, [], []⟩
def d_clip : He.DefD := ⟨("clip", none), "clip", "clip", defArgs s_clip, defBody s_clip, defScope s_clip, [], []⟩
def d_turned : He.DefD := ⟨("turned", none), "turned", "turned", defArgs s_turned, defBody s_turned, defScope s_turned, [], []⟩
def d_cut : He.DefD := ⟨("cut", none), "cut", "cut", defArgs s_cut, defBody s_cut, defScope s_cut, [], []⟩
def d_joined : He.DefD := ⟨("joined", none), "joined", "joined", defArgs s_joined, defBody s_joined, defScope s_joined, [], []⟩
def d__is_sound_part : He.DefD := ⟨("_is_sound_part", none), "_is_sound_part", "_is_sound_part", defArgs s__is_sound_part, defBody s__is_sound_part, defScope s__is_sound_part, [], []⟩
def d_mixed : He.DefD := ⟨("mixed", none), "mixed", "mixed", defArgs s_mixed, defBody s_mixed, defScope s_mixed, [], []⟩
def d_faded : He.DefD := ⟨("faded", none), "faded", "faded", defArgs s_faded, defBody s_faded, defScope s_faded, [], []⟩
def d_turned_back : He.DefD := ⟨("turned_back", none), "turned_back", "turned_back", defArgs s_turned_back, defBody s_turned_back, defScope s_turned_back, [], []⟩
def d__law_purse : He.DefD := ⟨("_law_purse", none), "_law_purse", "_law_purse", defArgs s__law_purse, defBody s__law_purse, defScope s__law_purse, [], []⟩
def d__law_pick : He.DefD := ⟨("_law_pick", none), "_law_pick", "_law_pick", defArgs s__law_pick, defBody s__law_pick, defScope s__law_pick, [], []⟩
def d__law_worth : He.DefD := ⟨("_law_worth", none), "_law_worth", "_law_worth", defArgs s__law_worth, defBody s__law_worth, defScope s__law_worth, [], []⟩
def d__law_sound : He.DefD := ⟨("_law_sound", none), "_law_sound", "_law_sound", defArgs s__law_sound, defBody s__law_sound, defScope s__law_sound, [], []⟩
def d__law_points : He.DefD := ⟨("_law_points", none), "_law_points", "_law_points", defArgs s__law_points, defBody s__law_points, defScope s__law_points, [], []⟩
def d__law_curve : He.DefD := ⟨("_law_curve", none), "_law_curve", "_law_curve", defArgs s__law_curve, defBody s__law_curve, defScope s__law_curve, [], []⟩
def d__law_middle : He.DefD := ⟨("_law_middle", none), "_law_middle", "_law_middle", defArgs s__law_middle, defBody s__law_middle, defScope s__law_middle, [], []⟩
def d__law_faded : He.DefD := ⟨("_law_faded", none), "_law_faded", "_law_faded", defArgs s__law_faded, defBody s__law_faded, defScope s__law_faded, [], []⟩
def d__law_mixed : He.DefD := ⟨("_law_mixed", none), "_law_mixed", "_law_mixed", defArgs s__law_mixed, defBody s__law_mixed, defScope s__law_mixed, [], []⟩
def d__law_due : He.DefD := ⟨("_law_due", none), "_law_due", "_law_due", defArgs s__law_due, defBody s__law_due, defScope s__law_due, [], []⟩
def d__law_told : He.DefD := ⟨("_law_told", none), "_law_told", "_law_told", defArgs s__law_told, defBody s__law_told, defScope s__law_told, [], []⟩
def d__law_deed : He.DefD := ⟨("_law_deed", none), "_law_deed", "_law_deed", defArgs s__law_deed, defBody s__law_deed, defScope s__law_deed, [], []⟩
def d__law_is_sound : He.DefD := ⟨("_law_is_sound", none), "_law_is_sound", "_law_is_sound", defArgs s__law_is_sound, defBody s__law_is_sound, defScope s__law_is_sound, [], []⟩
def d__law_bad_sound : He.DefD := ⟨("_law_bad_sound", none), "_law_bad_sound", "_law_bad_sound", defArgs s__law_bad_sound, defBody s__law_bad_sound, defScope s__law_bad_sound, [], []⟩
def d__law_bad_joined : He.DefD := ⟨("_law_bad_joined", none), "_law_bad_joined", "_law_bad_joined", defArgs s__law_bad_joined, defBody s__law_bad_joined, defScope s__law_bad_joined, [], []⟩
def d__law_bad_parts : He.DefD := ⟨("_law_bad_parts", none), "_law_bad_parts", "_law_bad_parts", defArgs s__law_bad_parts, defBody s__law_bad_parts, defScope s__law_bad_parts, [], []⟩
def d__law_bad_points : He.DefD := ⟨("_law_bad_points", none), "_law_bad_points", "_law_bad_points", defArgs s__law_bad_points, defBody s__law_bad_points, defScope s__law_bad_points, [], []⟩
def d__law_refused : He.DefD := ⟨("_law_refused", none), "_law_refused", "_law_refused", defArgs s__law_refused, defBody s__law_refused, defScope s__law_refused, [], []⟩
def d__law_bad_cut : He.DefD := ⟨("_law_bad_cut", none), "_law_bad_cut", "_law_bad_cut", defArgs s__law_bad_cut, defBody s__law_bad_cut, defScope s__law_bad_cut, [], []⟩
def d__law_bad_deeds : He.DefD := ⟨("_law_bad_deeds", none), "_law_bad_deeds", "_law_bad_deeds", defArgs s__law_bad_deeds, defBody s__law_bad_deeds, defScope s__law_bad_deeds, [], []⟩
def d_law : He.DefD := ⟨("law", none), "law", "law", defArgs s_law, defBody s_law, defScope s_law, [], []⟩
abbrev s_NotUsable_init : Stmt := inClass (top 3) 0
def d_NotUsable_init : He.DefD := ⟨("NotUsable", some "__init__"), "__init__", "NotUsable.__init__", defArgs s_NotUsable_init, defBody s_NotUsable_init, defScope s_NotUsable_init, [], []⟩
def fn : List He.DefD := [d_is_integer, d_is_number, d_is_worth, d_is_sound, d_is_mode, d_is_points, d_curve_at, d_clip, d_turned, d_cut, d_joined, d__is_sound_part, d_mixed, d_faded, d_turned_back, d__law_purse, d__law_pick, d__law_worth, d__law_sound, d__law_points, d__law_curve, d__law_middle, d__law_faded, d__law_mixed, d__law_due, d__law_told, d__law_deed, d__law_is_sound, d__law_bad_sound, d__law_bad_joined, d__law_bad_parts, d__law_bad_points, d__law_refused, d__law_bad_cut, d__law_bad_deeds, d_law, d_NotUsable_init]
def fa0 : List He.Fa := [.glo "is_integer", .glo "is_number", .glo "is_worth", .glo "is_sound", .glo "is_mode", .glo "is_points", .glo "curve_at", .glo "clip", .glo "turned", .glo "cut", .glo "joined", .glo "_is_sound_part", .glo "mixed", .glo "faded", .glo "turned_back", .glo "_law_purse", .glo "_law_pick", .glo "_law_worth", .glo "_law_sound", .glo "_law_points", .glo "_law_curve", .glo "_law_middle", .glo "_law_faded", .glo "_law_mixed", .glo "_law_due", .glo "_law_told", .glo "_law_deed", .glo "_law_is_sound", .glo "_law_bad_sound", .glo "_law_bad_joined", .glo "_law_bad_parts", .glo "_law_bad_points", .glo "_law_refused", .glo "_law_bad_cut", .glo "_law_bad_deeds", .glo "law", .glo "NotUsable", .exm "NotUsable" "NotUsable" true, .int "TOP" 1048575, .int "POINTS_MOST" 64]
def fa : List He.Fa := fa0 ++ bltNames.map fun (x : Str) => .free x
def ex (K : PySem.W.Frag) : Bool := xcs.all (xcB K)
def loose : List Str := (["SoundError", "UseError", "NotUsable", "TOP", "is_integer", "is_number", "is_worth", "is_sound", "is_mode", "POINTS_MOST", "is_points", "curve_at", "clip", "turned", "cut", "joined", "_is_sound_part", "mixed", "faded", "turned_back", "_law_purse", "_law_pick", "_law_worth", "_law_sound", "_law_points", "_law_curve", "_law_middle", "_law_faded", "_law_mixed", "_law_due"] : List Str) ++ (["_law_told", "_law_deed", "_law_is_sound", "_law_bad_sound", "_law_bad_joined", "_law_bad_parts", "_law_bad_points", "_law_refused", "_law_bad_cut", "_law_bad_deeds"] : List Str)
abbrev R : PySem.W.OpenRow := PySem.W.OpenLaw.row PySem.Challenge.rw_samesamples_k79_whole_sounds_by_rows
abbrev hk : PySem.W.Hook := hookU 5 fa fn ex
def ob (s : PySem.W.SharedT) : AlU := obsU 5 fa fn ex (HandSHeadRun.getT s)
theorem ob_eq (s : PySem.W.SharedT) : ob s = hk.obs s.abs := obsU_eq (HandSHeadRun.getT_eq s)
theorem run (w : World) : HandSHeadRun.RunEq R (PySem.W.view R.prog [46]) hk ob 4000 loose w := by
  intro os
  kernel_rfl
end K79
set_option Elab.async false
set_option linter.all false
set_option autoImplicit false
set_option maxRecDepth 100000
set_option maxHeartbeats 4000000
/-! the defs keep their promises; the end (written by mkav.py) -/
namespace K79
open PySem PySem.Spec PyProof.Rows L2 UL
section
variable {P : Program} {w : World} {K : PySem.W.Frag} {mg : Str → Option Value} {base : Heap} {h : Heap} (X : K.In h) (G : h.Ns mainGlobals mg) (c : He.SaysD fa fn K) (cx : ex K = true)
include X G c cx
theorem avx_NotUsable : AvX P w K mg base 1 "NotUsable" ["at", "word"] := by
  obtain ⟨fd, F⟩ := c.def_ 36 (d := d_NotUsable_init) rfl
  have Y := xc_of (List.all_eq_true.mp cx ("NotUsable", ["at", "word"]) (by decide +kernel))
  have S : FnScope ["self", "word", "at"] ["self", "word", "at"] (defScope s_NotUsable_init) := ⟨rfl, rfl, rfl, by decide +kernel, rfl, by decide +kernel, by decide +kernel⟩
  have b : Binds K fd ["self", "word", "at"] [] := FunD.bindsN F fun _ _ _ _ _ _ us hl => match us, hl with | [_, _, _], _ => rfl
  exact avx2 (k := 0) (st := s_NotUsable_init) (He.glo_ok X G (c.fact 36 (f := .glo "NotUsable") rfl)) (by decide +kernel) Y.c Y.o Y.i Y.t (funD_fun F) b S rfl (by decide +kernel) (by decide +kernel) (by decide +kernel) (by decide +kernel) (by decide +kernel) (by decide +kernel) (by decide +kernel)
theorem wd : Wd P w K mg base xcs sub gls 1 where
  gls := fun p hp => by
    unfold gls at hp
    simp only [List.mem_cons, List.mem_nil_iff, or_false] at hp
    rcases hp with rfl | rfl
    · obtain ⟨t, e⟩ := He.int_ok X G (c.fact 38 (f := .int "TOP" 1048575) rfl)
      exact ⟨_, V.int _, e, ⟨_, rfl⟩, fun H => .int _, by decide +kernel⟩
    · obtain ⟨t, e⟩ := He.int_ok X G (c.fact 39 (f := .int "POINTS_MOST" 64) rfl)
      exact ⟨_, V.int _, e, ⟨_, rfl⟩, fun H => .int _, by decide +kernel⟩
  blt := fun x hx => by
    obtain ⟨i, hi⟩ := List.getElem?_of_mem hx
    refine He.free_ok X G (c.fact (40 + i) (f := .free x) ?_)
    have l0 : fa0.length = 40 := rfl
    unfold fa
    rw [List.getElem?_append_right (by omega), l0, Nat.add_sub_cancel_left, List.getElem?_map, hi]
    rfl
  xc := fun p hp => by
    unfold xcs at hp
    simp only [List.mem_cons, List.mem_nil_iff, or_false] at hp
    rcases hp with rfl
    · exact avx_NotUsable X G c cx
  sub := fun i j x y fs gs C D h1 h2 h3 h4 => by
    have g_NotUsable := He.glo_ok X G (c.fact 36 (f := .glo "NotUsable") rfl)
    have hi : i < 1 := (List.getElem?_eq_some_iff.mp h1).1
    have hj : j < 1 := (List.getElem?_eq_some_iff.mp h2).1
    have hij : (i = 0 ∧ j = 0) := by omega
    rcases hij with ⟨rfl, rfl⟩
    · cases h1; cases h2
      have e3 := g_NotUsable.symm.trans h3; have e4 := g_NotUsable.symm.trans h4
      cases e3; cases e4
      exact He.exm_ok (c.fact 37 (f := .exm "NotUsable" "NotUsable" true) rfl)
theorem av_is_integer : Av P w K mg base xcs 3 "is_integer" sp_is_integer := by
  obtain ⟨fd, F⟩ := c.def_ 0 (d := d_is_integer) rfl
  have S : FnScope n_is_integer p_is_integer (defScope s_is_integer) := ⟨rfl, rfl, rfl, by decide +kernel, rfl, by decide +kernel, by decide +kernel⟩
  refine def_av (k := 1) (cl := cl_is_integer) (st := s_is_integer) ((wd X G c cx).mono (by decide)) (fun p hp => ?_) (funD_fun F) (He.glo_ok X G (c.fact 0 (f := .glo "is_integer") rfl)) (FunD.bindsN F fun _ _ _ _ _ _ us hl => match us, hl with | [_], _ => rfl) (by decide +kernel) S c_is_integer (fun us G Q E h => ?_) w_is_integer
  · cases hp
  · first | (obtain ⟨rfl, _⟩ := h; rfl) | (obtain ⟨_, rfl, _⟩ := h; rfl) | (obtain ⟨_, _, rfl, _⟩ := h; rfl) | (obtain ⟨_, _, _, rfl, _⟩ := h; rfl) | (obtain ⟨_, _, _, _, rfl, _⟩ := h; rfl) | (obtain ⟨_, _, _, _, _, rfl, _⟩ := h; rfl) | (obtain ⟨_, _, _, _, _, _, rfl, _⟩ := h; rfl) | (obtain ⟨_, _, _, _, _, _, _, rfl, _⟩ := h; rfl)
theorem av_is_mode : Av P w K mg base xcs 3 "is_mode" sp_is_mode := by
  obtain ⟨fd, F⟩ := c.def_ 4 (d := d_is_mode) rfl
  have S : FnScope n_is_mode p_is_mode (defScope s_is_mode) := ⟨rfl, rfl, rfl, by decide +kernel, rfl, by decide +kernel, by decide +kernel⟩
  refine def_av (k := 1) (cl := cl_is_mode) (st := s_is_mode) ((wd X G c cx).mono (by decide)) (fun p hp => ?_) (funD_fun F) (He.glo_ok X G (c.fact 4 (f := .glo "is_mode") rfl)) (FunD.bindsN F fun _ _ _ _ _ _ us hl => match us, hl with | [_], _ => rfl) (by decide +kernel) S c_is_mode (fun us G Q E h => ?_) w_is_mode
  · cases hp
  · first | (obtain ⟨rfl, _⟩ := h; rfl) | (obtain ⟨_, rfl, _⟩ := h; rfl) | (obtain ⟨_, _, rfl, _⟩ := h; rfl) | (obtain ⟨_, _, _, rfl, _⟩ := h; rfl) | (obtain ⟨_, _, _, _, rfl, _⟩ := h; rfl) | (obtain ⟨_, _, _, _, _, rfl, _⟩ := h; rfl) | (obtain ⟨_, _, _, _, _, _, rfl, _⟩ := h; rfl) | (obtain ⟨_, _, _, _, _, _, _, rfl, _⟩ := h; rfl)
theorem av__law_purse : Av P w K mg base xcs 3 "_law_purse" sp__law_purse := by
  obtain ⟨fd, F⟩ := c.def_ 15 (d := d__law_purse) rfl
  have S : FnScope n__law_purse p__law_purse (defScope s__law_purse) := ⟨rfl, rfl, rfl, by decide +kernel, rfl, by decide +kernel, by decide +kernel⟩
  refine def_av (k := 1) (cl := cl__law_purse) (st := s__law_purse) ((wd X G c cx).mono (by decide)) (fun p hp => ?_) (funD_fun F) (He.glo_ok X G (c.fact 15 (f := .glo "_law_purse") rfl)) (FunD.bindsN F fun _ _ _ _ _ _ us hl => match us, hl with | [_], _ => rfl) (by decide +kernel) S c__law_purse (fun us G Q E h => ?_) w__law_purse
  · cases hp
  · first | (obtain ⟨rfl, _⟩ := h; rfl) | (obtain ⟨_, rfl, _⟩ := h; rfl) | (obtain ⟨_, _, rfl, _⟩ := h; rfl) | (obtain ⟨_, _, _, rfl, _⟩ := h; rfl) | (obtain ⟨_, _, _, _, rfl, _⟩ := h; rfl) | (obtain ⟨_, _, _, _, _, rfl, _⟩ := h; rfl) | (obtain ⟨_, _, _, _, _, _, rfl, _⟩ := h; rfl) | (obtain ⟨_, _, _, _, _, _, _, rfl, _⟩ := h; rfl)
theorem av__law_pick : Av P w K mg base xcs 3 "_law_pick" sp__law_pick := by
  obtain ⟨fd, F⟩ := c.def_ 16 (d := d__law_pick) rfl
  have S : FnScope n__law_pick p__law_pick (defScope s__law_pick) := ⟨rfl, rfl, rfl, by decide +kernel, rfl, by decide +kernel, by decide +kernel⟩
  refine def_av (k := 1) (cl := cl__law_pick) (st := s__law_pick) ((wd X G c cx).mono (by decide)) (fun p hp => ?_) (funD_fun F) (He.glo_ok X G (c.fact 16 (f := .glo "_law_pick") rfl)) (FunD.bindsN F fun _ _ _ _ _ _ us hl => match us, hl with | [_, _], _ => rfl) (by decide +kernel) S c__law_pick (fun us G Q E h => ?_) w__law_pick
  · cases hp
  · first | (obtain ⟨rfl, _⟩ := h; rfl) | (obtain ⟨_, rfl, _⟩ := h; rfl) | (obtain ⟨_, _, rfl, _⟩ := h; rfl) | (obtain ⟨_, _, _, rfl, _⟩ := h; rfl) | (obtain ⟨_, _, _, _, rfl, _⟩ := h; rfl) | (obtain ⟨_, _, _, _, _, rfl, _⟩ := h; rfl) | (obtain ⟨_, _, _, _, _, _, rfl, _⟩ := h; rfl) | (obtain ⟨_, _, _, _, _, _, _, rfl, _⟩ := h; rfl)
theorem av__law_curve : Av P w K mg base xcs 3 "_law_curve" sp__law_curve := by
  obtain ⟨fd, F⟩ := c.def_ 20 (d := d__law_curve) rfl
  have S : FnScope n__law_curve p__law_curve (defScope s__law_curve) := ⟨rfl, rfl, rfl, by decide +kernel, rfl, by decide +kernel, by decide +kernel⟩
  refine def_av (k := 1) (cl := cl__law_curve) (st := s__law_curve) ((wd X G c cx).mono (by decide)) (fun p hp => ?_) (funD_fun F) (He.glo_ok X G (c.fact 20 (f := .glo "_law_curve") rfl)) (FunD.bindsN F fun _ _ _ _ _ _ us hl => match us, hl with | [_, _], _ => rfl) (by decide +kernel) S c__law_curve (fun us G Q E h => ?_) w__law_curve
  · cases hp
  · first | (obtain ⟨rfl, _⟩ := h; rfl) | (obtain ⟨_, rfl, _⟩ := h; rfl) | (obtain ⟨_, _, rfl, _⟩ := h; rfl) | (obtain ⟨_, _, _, rfl, _⟩ := h; rfl) | (obtain ⟨_, _, _, _, rfl, _⟩ := h; rfl) | (obtain ⟨_, _, _, _, _, rfl, _⟩ := h; rfl) | (obtain ⟨_, _, _, _, _, _, rfl, _⟩ := h; rfl) | (obtain ⟨_, _, _, _, _, _, _, rfl, _⟩ := h; rfl)
theorem av__law_middle : Av P w K mg base xcs 3 "_law_middle" sp__law_middle := by
  obtain ⟨fd, F⟩ := c.def_ 21 (d := d__law_middle) rfl
  have S : FnScope n__law_middle p__law_middle (defScope s__law_middle) := ⟨rfl, rfl, rfl, by decide +kernel, rfl, by decide +kernel, by decide +kernel⟩
  refine def_av (k := 1) (cl := cl__law_middle) (st := s__law_middle) ((wd X G c cx).mono (by decide)) (fun p hp => ?_) (funD_fun F) (He.glo_ok X G (c.fact 21 (f := .glo "_law_middle") rfl)) (FunD.bindsN F fun _ _ _ _ _ _ us hl => match us, hl with | [_], _ => rfl) (by decide +kernel) S c__law_middle (fun us G Q E h => ?_) w__law_middle
  · cases hp
  · first | (obtain ⟨rfl, _⟩ := h; rfl) | (obtain ⟨_, rfl, _⟩ := h; rfl) | (obtain ⟨_, _, rfl, _⟩ := h; rfl) | (obtain ⟨_, _, _, rfl, _⟩ := h; rfl) | (obtain ⟨_, _, _, _, rfl, _⟩ := h; rfl) | (obtain ⟨_, _, _, _, _, rfl, _⟩ := h; rfl) | (obtain ⟨_, _, _, _, _, _, rfl, _⟩ := h; rfl) | (obtain ⟨_, _, _, _, _, _, _, rfl, _⟩ := h; rfl)
theorem av__law_is_sound : Av P w K mg base xcs 3 "_law_is_sound" sp__law_is_sound := by
  obtain ⟨fd, F⟩ := c.def_ 27 (d := d__law_is_sound) rfl
  have S : FnScope n__law_is_sound p__law_is_sound (defScope s__law_is_sound) := ⟨rfl, rfl, rfl, by decide +kernel, rfl, by decide +kernel, by decide +kernel⟩
  refine def_av (k := 1) (cl := cl__law_is_sound) (st := s__law_is_sound) ((wd X G c cx).mono (by decide)) (fun p hp => ?_) (funD_fun F) (He.glo_ok X G (c.fact 27 (f := .glo "_law_is_sound") rfl)) (FunD.bindsN F fun _ _ _ _ _ _ us hl => match us, hl with | [_, _], _ => rfl) (by decide +kernel) S c__law_is_sound (fun us G Q E h => ?_) w__law_is_sound
  · cases hp
  · first | (obtain ⟨rfl, _⟩ := h; rfl) | (obtain ⟨_, rfl, _⟩ := h; rfl) | (obtain ⟨_, _, rfl, _⟩ := h; rfl) | (obtain ⟨_, _, _, rfl, _⟩ := h; rfl) | (obtain ⟨_, _, _, _, rfl, _⟩ := h; rfl) | (obtain ⟨_, _, _, _, _, rfl, _⟩ := h; rfl) | (obtain ⟨_, _, _, _, _, _, rfl, _⟩ := h; rfl) | (obtain ⟨_, _, _, _, _, _, _, rfl, _⟩ := h; rfl)
theorem av__law_bad_sound : Av P w K mg base xcs 3 "_law_bad_sound" sp__law_bad_sound := by
  obtain ⟨fd, F⟩ := c.def_ 28 (d := d__law_bad_sound) rfl
  have S : FnScope n__law_bad_sound p__law_bad_sound (defScope s__law_bad_sound) := ⟨rfl, rfl, rfl, by decide +kernel, rfl, by decide +kernel, by decide +kernel⟩
  refine def_av (k := 1) (cl := cl__law_bad_sound) (st := s__law_bad_sound) ((wd X G c cx).mono (by decide)) (fun p hp => ?_) (funD_fun F) (He.glo_ok X G (c.fact 28 (f := .glo "_law_bad_sound") rfl)) (FunD.bindsN F fun _ _ _ _ _ _ us hl => match us, hl with | [_], _ => rfl) (by decide +kernel) S c__law_bad_sound (fun us G Q E h => ?_) w__law_bad_sound
  · cases hp
  · first | (obtain ⟨rfl, _⟩ := h; rfl) | (obtain ⟨_, rfl, _⟩ := h; rfl) | (obtain ⟨_, _, rfl, _⟩ := h; rfl) | (obtain ⟨_, _, _, rfl, _⟩ := h; rfl) | (obtain ⟨_, _, _, _, rfl, _⟩ := h; rfl) | (obtain ⟨_, _, _, _, _, rfl, _⟩ := h; rfl) | (obtain ⟨_, _, _, _, _, _, rfl, _⟩ := h; rfl) | (obtain ⟨_, _, _, _, _, _, _, rfl, _⟩ := h; rfl)
theorem av__law_bad_joined : Av P w K mg base xcs 3 "_law_bad_joined" sp__law_bad_joined := by
  obtain ⟨fd, F⟩ := c.def_ 29 (d := d__law_bad_joined) rfl
  have S : FnScope n__law_bad_joined p__law_bad_joined (defScope s__law_bad_joined) := ⟨rfl, rfl, rfl, by decide +kernel, rfl, by decide +kernel, by decide +kernel⟩
  refine def_av (k := 1) (cl := cl__law_bad_joined) (st := s__law_bad_joined) ((wd X G c cx).mono (by decide)) (fun p hp => ?_) (funD_fun F) (He.glo_ok X G (c.fact 29 (f := .glo "_law_bad_joined") rfl)) (FunD.bindsN F fun _ _ _ _ _ _ us hl => match us, hl with | [_], _ => rfl) (by decide +kernel) S c__law_bad_joined (fun us G Q E h => ?_) w__law_bad_joined
  · cases hp
  · first | (obtain ⟨rfl, _⟩ := h; rfl) | (obtain ⟨_, rfl, _⟩ := h; rfl) | (obtain ⟨_, _, rfl, _⟩ := h; rfl) | (obtain ⟨_, _, _, rfl, _⟩ := h; rfl) | (obtain ⟨_, _, _, _, rfl, _⟩ := h; rfl) | (obtain ⟨_, _, _, _, _, rfl, _⟩ := h; rfl) | (obtain ⟨_, _, _, _, _, _, rfl, _⟩ := h; rfl) | (obtain ⟨_, _, _, _, _, _, _, rfl, _⟩ := h; rfl)
theorem av__law_bad_parts : Av P w K mg base xcs 3 "_law_bad_parts" sp__law_bad_parts := by
  obtain ⟨fd, F⟩ := c.def_ 30 (d := d__law_bad_parts) rfl
  have S : FnScope n__law_bad_parts p__law_bad_parts (defScope s__law_bad_parts) := ⟨rfl, rfl, rfl, by decide +kernel, rfl, by decide +kernel, by decide +kernel⟩
  refine def_av (k := 1) (cl := cl__law_bad_parts) (st := s__law_bad_parts) ((wd X G c cx).mono (by decide)) (fun p hp => ?_) (funD_fun F) (He.glo_ok X G (c.fact 30 (f := .glo "_law_bad_parts") rfl)) (FunD.bindsN F fun _ _ _ _ _ _ us hl => match us, hl with | [_], _ => rfl) (by decide +kernel) S c__law_bad_parts (fun us G Q E h => ?_) w__law_bad_parts
  · cases hp
  · first | (obtain ⟨rfl, _⟩ := h; rfl) | (obtain ⟨_, rfl, _⟩ := h; rfl) | (obtain ⟨_, _, rfl, _⟩ := h; rfl) | (obtain ⟨_, _, _, rfl, _⟩ := h; rfl) | (obtain ⟨_, _, _, _, rfl, _⟩ := h; rfl) | (obtain ⟨_, _, _, _, _, rfl, _⟩ := h; rfl) | (obtain ⟨_, _, _, _, _, _, rfl, _⟩ := h; rfl) | (obtain ⟨_, _, _, _, _, _, _, rfl, _⟩ := h; rfl)
theorem av__law_bad_points : Av P w K mg base xcs 3 "_law_bad_points" sp__law_bad_points := by
  obtain ⟨fd, F⟩ := c.def_ 31 (d := d__law_bad_points) rfl
  have S : FnScope n__law_bad_points p__law_bad_points (defScope s__law_bad_points) := ⟨rfl, rfl, rfl, by decide +kernel, rfl, by decide +kernel, by decide +kernel⟩
  refine def_av (k := 1) (cl := cl__law_bad_points) (st := s__law_bad_points) ((wd X G c cx).mono (by decide)) (fun p hp => ?_) (funD_fun F) (He.glo_ok X G (c.fact 31 (f := .glo "_law_bad_points") rfl)) (FunD.bindsN F fun _ _ _ _ _ _ us hl => match us, hl with | [_], _ => rfl) (by decide +kernel) S c__law_bad_points (fun us G Q E h => ?_) w__law_bad_points
  · cases hp
  · first | (obtain ⟨rfl, _⟩ := h; rfl) | (obtain ⟨_, rfl, _⟩ := h; rfl) | (obtain ⟨_, _, rfl, _⟩ := h; rfl) | (obtain ⟨_, _, _, rfl, _⟩ := h; rfl) | (obtain ⟨_, _, _, _, rfl, _⟩ := h; rfl) | (obtain ⟨_, _, _, _, _, rfl, _⟩ := h; rfl) | (obtain ⟨_, _, _, _, _, _, rfl, _⟩ := h; rfl) | (obtain ⟨_, _, _, _, _, _, _, rfl, _⟩ := h; rfl)
theorem av_is_number : Av P w K mg base xcs 4 "is_number" sp_is_number := by
  obtain ⟨fd, F⟩ := c.def_ 1 (d := d_is_number) rfl
  have S : FnScope n_is_number p_is_number (defScope s_is_number) := ⟨rfl, rfl, rfl, by decide +kernel, rfl, by decide +kernel, by decide +kernel⟩
  refine def_av (k := 2) (cl := cl_is_number) (st := s_is_number) ((wd X G c cx).mono (by decide)) (fun p hp => ?_) (funD_fun F) (He.glo_ok X G (c.fact 1 (f := .glo "is_number") rfl)) (FunD.bindsN F fun _ _ _ _ _ _ us hl => match us, hl with | [_], _ => rfl) (by decide +kernel) S c_is_number (fun us G Q E h => ?_) w_is_number
  · unfold cl_is_number at hp
    simp only [List.mem_cons, List.mem_nil_iff, or_false] at hp
    rcases hp with rfl
    · exact (av_is_integer X G c cx).mono (by decide)
  · first | (obtain ⟨rfl, _⟩ := h; rfl) | (obtain ⟨_, rfl, _⟩ := h; rfl) | (obtain ⟨_, _, rfl, _⟩ := h; rfl) | (obtain ⟨_, _, _, rfl, _⟩ := h; rfl) | (obtain ⟨_, _, _, _, rfl, _⟩ := h; rfl) | (obtain ⟨_, _, _, _, _, rfl, _⟩ := h; rfl) | (obtain ⟨_, _, _, _, _, _, rfl, _⟩ := h; rfl) | (obtain ⟨_, _, _, _, _, _, _, rfl, _⟩ := h; rfl)
theorem av_is_worth : Av P w K mg base xcs 4 "is_worth" sp_is_worth := by
  obtain ⟨fd, F⟩ := c.def_ 2 (d := d_is_worth) rfl
  have S : FnScope n_is_worth p_is_worth (defScope s_is_worth) := ⟨rfl, rfl, rfl, by decide +kernel, rfl, by decide +kernel, by decide +kernel⟩
  refine def_av (k := 2) (cl := cl_is_worth) (st := s_is_worth) ((wd X G c cx).mono (by decide)) (fun p hp => ?_) (funD_fun F) (He.glo_ok X G (c.fact 2 (f := .glo "is_worth") rfl)) (FunD.bindsN F fun _ _ _ _ _ _ us hl => match us, hl with | [_], _ => rfl) (by decide +kernel) S c_is_worth (fun us G Q E h => ?_) w_is_worth
  · unfold cl_is_worth at hp
    simp only [List.mem_cons, List.mem_nil_iff, or_false] at hp
    rcases hp with rfl
    · exact (av_is_integer X G c cx).mono (by decide)
  · first | (obtain ⟨rfl, _⟩ := h; rfl) | (obtain ⟨_, rfl, _⟩ := h; rfl) | (obtain ⟨_, _, rfl, _⟩ := h; rfl) | (obtain ⟨_, _, _, rfl, _⟩ := h; rfl) | (obtain ⟨_, _, _, _, rfl, _⟩ := h; rfl) | (obtain ⟨_, _, _, _, _, rfl, _⟩ := h; rfl) | (obtain ⟨_, _, _, _, _, _, rfl, _⟩ := h; rfl) | (obtain ⟨_, _, _, _, _, _, _, rfl, _⟩ := h; rfl)
theorem av_curve_at : Av P w K mg base xcs 4 "curve_at" sp_curve_at := by
  obtain ⟨fd, F⟩ := c.def_ 6 (d := d_curve_at) rfl
  have S : FnScope n_curve_at p_curve_at (defScope s_curve_at) := ⟨rfl, rfl, rfl, by decide +kernel, rfl, by decide +kernel, by decide +kernel⟩
  refine def_av (k := 2) (cl := cl_curve_at) (st := s_curve_at) ((wd X G c cx).mono (by decide)) (fun p hp => ?_) (funD_fun F) (He.glo_ok X G (c.fact 6 (f := .glo "curve_at") rfl)) (FunD.bindsN F fun _ _ _ _ _ _ us hl => match us, hl with | [_, _], _ => rfl) (by decide +kernel) S c_curve_at (fun us G Q E h => ?_) w_curve_at
  · unfold cl_curve_at at hp
    simp only [List.mem_cons, List.mem_nil_iff, or_false] at hp
    rcases hp with rfl
    · exact (av_is_integer X G c cx).mono (by decide)
  · first | (obtain ⟨rfl, _⟩ := h; rfl) | (obtain ⟨_, rfl, _⟩ := h; rfl) | (obtain ⟨_, _, rfl, _⟩ := h; rfl) | (obtain ⟨_, _, _, rfl, _⟩ := h; rfl) | (obtain ⟨_, _, _, _, rfl, _⟩ := h; rfl) | (obtain ⟨_, _, _, _, _, rfl, _⟩ := h; rfl) | (obtain ⟨_, _, _, _, _, _, rfl, _⟩ := h; rfl) | (obtain ⟨_, _, _, _, _, _, _, rfl, _⟩ := h; rfl)
theorem av_clip : Av P w K mg base xcs 4 "clip" sp_clip := by
  obtain ⟨fd, F⟩ := c.def_ 7 (d := d_clip) rfl
  have S : FnScope n_clip p_clip (defScope s_clip) := ⟨rfl, rfl, rfl, by decide +kernel, rfl, by decide +kernel, by decide +kernel⟩
  refine def_av (k := 2) (cl := cl_clip) (st := s_clip) ((wd X G c cx).mono (by decide)) (fun p hp => ?_) (funD_fun F) (He.glo_ok X G (c.fact 7 (f := .glo "clip") rfl)) (FunD.bindsN F fun _ _ _ _ _ _ us hl => match us, hl with | [_], _ => rfl) (by decide +kernel) S c_clip (fun us G Q E h => ?_) w_clip
  · unfold cl_clip at hp
    simp only [List.mem_cons, List.mem_nil_iff, or_false] at hp
    rcases hp with rfl
    · exact (av_is_integer X G c cx).mono (by decide)
  · first | (obtain ⟨rfl, _⟩ := h; rfl) | (obtain ⟨_, rfl, _⟩ := h; rfl) | (obtain ⟨_, _, rfl, _⟩ := h; rfl) | (obtain ⟨_, _, _, rfl, _⟩ := h; rfl) | (obtain ⟨_, _, _, _, rfl, _⟩ := h; rfl) | (obtain ⟨_, _, _, _, _, rfl, _⟩ := h; rfl) | (obtain ⟨_, _, _, _, _, _, rfl, _⟩ := h; rfl) | (obtain ⟨_, _, _, _, _, _, _, rfl, _⟩ := h; rfl)
theorem av_turned : Av P w K mg base xcs 4 "turned" sp_turned := by
  obtain ⟨fd, F⟩ := c.def_ 8 (d := d_turned) rfl
  have S : FnScope n_turned p_turned (defScope s_turned) := ⟨rfl, rfl, rfl, by decide +kernel, rfl, by decide +kernel, by decide +kernel⟩
  refine def_av (k := 2) (cl := cl_turned) (st := s_turned) ((wd X G c cx).mono (by decide)) (fun p hp => ?_) (funD_fun F) (He.glo_ok X G (c.fact 8 (f := .glo "turned") rfl)) (FunD.bindsN F fun _ _ _ _ _ _ us hl => match us, hl with | [_, _, _], _ => rfl) (by decide +kernel) S c_turned (fun us G Q E h => ?_) w_turned
  · unfold cl_turned at hp
    simp only [List.mem_cons, List.mem_nil_iff, or_false] at hp
    rcases hp with rfl | rfl
    · exact (av_is_integer X G c cx).mono (by decide)
    · exact (av_is_mode X G c cx).mono (by decide)
  · first | (obtain ⟨rfl, _⟩ := h; rfl) | (obtain ⟨_, rfl, _⟩ := h; rfl) | (obtain ⟨_, _, rfl, _⟩ := h; rfl) | (obtain ⟨_, _, _, rfl, _⟩ := h; rfl) | (obtain ⟨_, _, _, _, rfl, _⟩ := h; rfl) | (obtain ⟨_, _, _, _, _, rfl, _⟩ := h; rfl) | (obtain ⟨_, _, _, _, _, _, rfl, _⟩ := h; rfl) | (obtain ⟨_, _, _, _, _, _, _, rfl, _⟩ := h; rfl)
theorem av__law_worth : Av P w K mg base xcs 4 "_law_worth" sp__law_worth := by
  obtain ⟨fd, F⟩ := c.def_ 17 (d := d__law_worth) rfl
  have S : FnScope n__law_worth p__law_worth (defScope s__law_worth) := ⟨rfl, rfl, rfl, by decide +kernel, rfl, by decide +kernel, by decide +kernel⟩
  refine def_av (k := 2) (cl := cl__law_worth) (st := s__law_worth) ((wd X G c cx).mono (by decide)) (fun p hp => ?_) (funD_fun F) (He.glo_ok X G (c.fact 17 (f := .glo "_law_worth") rfl)) (FunD.bindsN F fun _ _ _ _ _ _ us hl => match us, hl with | [_], _ => rfl) (by decide +kernel) S c__law_worth (fun us G Q E h => ?_) w__law_worth
  · unfold cl__law_worth at hp
    simp only [List.mem_cons, List.mem_nil_iff, or_false] at hp
    rcases hp with rfl
    · exact (av__law_pick X G c cx).mono (by decide)
  · first | (obtain ⟨rfl, _⟩ := h; rfl) | (obtain ⟨_, rfl, _⟩ := h; rfl) | (obtain ⟨_, _, rfl, _⟩ := h; rfl) | (obtain ⟨_, _, _, rfl, _⟩ := h; rfl) | (obtain ⟨_, _, _, _, rfl, _⟩ := h; rfl) | (obtain ⟨_, _, _, _, _, rfl, _⟩ := h; rfl) | (obtain ⟨_, _, _, _, _, _, rfl, _⟩ := h; rfl) | (obtain ⟨_, _, _, _, _, _, _, rfl, _⟩ := h; rfl)
theorem av__law_faded : Av P w K mg base xcs 4 "_law_faded" sp__law_faded := by
  obtain ⟨fd, F⟩ := c.def_ 22 (d := d__law_faded) rfl
  have S : FnScope n__law_faded p__law_faded (defScope s__law_faded) := ⟨rfl, rfl, rfl, by decide +kernel, rfl, by decide +kernel, by decide +kernel⟩
  refine def_av (k := 2) (cl := cl__law_faded) (st := s__law_faded) ((wd X G c cx).mono (by decide)) (fun p hp => ?_) (funD_fun F) (He.glo_ok X G (c.fact 22 (f := .glo "_law_faded") rfl)) (FunD.bindsN F fun _ _ _ _ _ _ us hl => match us, hl with | [_, _], _ => rfl) (by decide +kernel) S c__law_faded (fun us G Q E h => ?_) w__law_faded
  · unfold cl__law_faded at hp
    simp only [List.mem_cons, List.mem_nil_iff, or_false] at hp
    rcases hp with rfl
    · exact (av__law_middle X G c cx).mono (by decide)
  · first | (obtain ⟨rfl, _⟩ := h; rfl) | (obtain ⟨_, rfl, _⟩ := h; rfl) | (obtain ⟨_, _, rfl, _⟩ := h; rfl) | (obtain ⟨_, _, _, rfl, _⟩ := h; rfl) | (obtain ⟨_, _, _, _, rfl, _⟩ := h; rfl) | (obtain ⟨_, _, _, _, _, rfl, _⟩ := h; rfl) | (obtain ⟨_, _, _, _, _, _, rfl, _⟩ := h; rfl) | (obtain ⟨_, _, _, _, _, _, _, rfl, _⟩ := h; rfl)
theorem av__law_mixed : Av P w K mg base xcs 4 "_law_mixed" sp__law_mixed := by
  obtain ⟨fd, F⟩ := c.def_ 23 (d := d__law_mixed) rfl
  have S : FnScope n__law_mixed p__law_mixed (defScope s__law_mixed) := ⟨rfl, rfl, rfl, by decide +kernel, rfl, by decide +kernel, by decide +kernel⟩
  refine def_av (k := 2) (cl := cl__law_mixed) (st := s__law_mixed) ((wd X G c cx).mono (by decide)) (fun p hp => ?_) (funD_fun F) (He.glo_ok X G (c.fact 23 (f := .glo "_law_mixed") rfl)) (FunD.bindsN F fun _ _ _ _ _ _ us hl => match us, hl with | [_], _ => rfl) (by decide +kernel) S c__law_mixed (fun us G Q E h => ?_) w__law_mixed
  · unfold cl__law_mixed at hp
    simp only [List.mem_cons, List.mem_nil_iff, or_false] at hp
    rcases hp with rfl
    · exact (av__law_middle X G c cx).mono (by decide)
  · first | (obtain ⟨rfl, _⟩ := h; rfl) | (obtain ⟨_, rfl, _⟩ := h; rfl) | (obtain ⟨_, _, rfl, _⟩ := h; rfl) | (obtain ⟨_, _, _, rfl, _⟩ := h; rfl) | (obtain ⟨_, _, _, _, rfl, _⟩ := h; rfl) | (obtain ⟨_, _, _, _, _, rfl, _⟩ := h; rfl) | (obtain ⟨_, _, _, _, _, _, rfl, _⟩ := h; rfl) | (obtain ⟨_, _, _, _, _, _, _, rfl, _⟩ := h; rfl)
theorem av__law_bad_cut : Av P w K mg base xcs 4 "_law_bad_cut" sp__law_bad_cut := by
  obtain ⟨fd, F⟩ := c.def_ 33 (d := d__law_bad_cut) rfl
  have S : FnScope n__law_bad_cut p__law_bad_cut (defScope s__law_bad_cut) := ⟨rfl, rfl, rfl, by decide +kernel, rfl, by decide +kernel, by decide +kernel⟩
  refine def_av (k := 2) (cl := cl__law_bad_cut) (st := s__law_bad_cut) ((wd X G c cx).mono (by decide)) (fun p hp => ?_) (funD_fun F) (He.glo_ok X G (c.fact 33 (f := .glo "_law_bad_cut") rfl)) (FunD.bindsN F fun _ _ _ _ _ _ us hl => match us, hl with | [_, _], _ => rfl) (by decide +kernel) S c__law_bad_cut (fun us G Q E h => ?_) w__law_bad_cut
  · unfold cl__law_bad_cut at hp
    simp only [List.mem_cons, List.mem_nil_iff, or_false] at hp
    rcases hp with rfl | rfl
    · exact (av__law_pick X G c cx).mono (by decide)
    · exact (av__law_bad_sound X G c cx).mono (by decide)
  · first | (obtain ⟨rfl, _⟩ := h; rfl) | (obtain ⟨_, rfl, _⟩ := h; rfl) | (obtain ⟨_, _, rfl, _⟩ := h; rfl) | (obtain ⟨_, _, _, rfl, _⟩ := h; rfl) | (obtain ⟨_, _, _, _, rfl, _⟩ := h; rfl) | (obtain ⟨_, _, _, _, _, rfl, _⟩ := h; rfl) | (obtain ⟨_, _, _, _, _, _, rfl, _⟩ := h; rfl) | (obtain ⟨_, _, _, _, _, _, _, rfl, _⟩ := h; rfl)
theorem av_is_sound : Av P w K mg base xcs 5 "is_sound" sp_is_sound := by
  obtain ⟨fd, F⟩ := c.def_ 3 (d := d_is_sound) rfl
  have S : FnScope n_is_sound p_is_sound (defScope s_is_sound) := ⟨rfl, rfl, rfl, by decide +kernel, rfl, by decide +kernel, by decide +kernel⟩
  refine def_av (k := 3) (cl := cl_is_sound) (st := s_is_sound) ((wd X G c cx).mono (by decide)) (fun p hp => ?_) (funD_fun F) (He.glo_ok X G (c.fact 3 (f := .glo "is_sound") rfl)) (FunD.bindsN F fun _ _ _ _ _ _ us hl => match us, hl with | [_], _ => rfl) (by decide +kernel) S c_is_sound (fun us G Q E h => ?_) w_is_sound
  · unfold cl_is_sound at hp
    simp only [List.mem_cons, List.mem_nil_iff, or_false] at hp
    rcases hp with rfl
    · exact (av_is_worth X G c cx).mono (by decide)
  · first | (obtain ⟨rfl, _⟩ := h; rfl) | (obtain ⟨_, rfl, _⟩ := h; rfl) | (obtain ⟨_, _, rfl, _⟩ := h; rfl) | (obtain ⟨_, _, _, rfl, _⟩ := h; rfl) | (obtain ⟨_, _, _, _, rfl, _⟩ := h; rfl) | (obtain ⟨_, _, _, _, _, rfl, _⟩ := h; rfl) | (obtain ⟨_, _, _, _, _, _, rfl, _⟩ := h; rfl) | (obtain ⟨_, _, _, _, _, _, _, rfl, _⟩ := h; rfl)
theorem av_is_points : Av P w K mg base xcs 5 "is_points" sp_is_points := by
  obtain ⟨fd, F⟩ := c.def_ 5 (d := d_is_points) rfl
  have S : FnScope n_is_points p_is_points (defScope s_is_points) := ⟨rfl, rfl, rfl, by decide +kernel, rfl, by decide +kernel, by decide +kernel⟩
  refine def_av (k := 3) (cl := cl_is_points) (st := s_is_points) ((wd X G c cx).mono (by decide)) (fun p hp => ?_) (funD_fun F) (He.glo_ok X G (c.fact 5 (f := .glo "is_points") rfl)) (FunD.bindsN F fun _ _ _ _ _ _ us hl => match us, hl with | [_], _ => rfl) (by decide +kernel) S c_is_points (fun us G Q E h => ?_) w_is_points
  · unfold cl_is_points at hp
    simp only [List.mem_cons, List.mem_nil_iff, or_false] at hp
    rcases hp with rfl
    · exact (av_is_worth X G c cx).mono (by decide)
  · first | (obtain ⟨rfl, _⟩ := h; rfl) | (obtain ⟨_, rfl, _⟩ := h; rfl) | (obtain ⟨_, _, rfl, _⟩ := h; rfl) | (obtain ⟨_, _, _, rfl, _⟩ := h; rfl) | (obtain ⟨_, _, _, _, rfl, _⟩ := h; rfl) | (obtain ⟨_, _, _, _, _, rfl, _⟩ := h; rfl) | (obtain ⟨_, _, _, _, _, _, rfl, _⟩ := h; rfl) | (obtain ⟨_, _, _, _, _, _, _, rfl, _⟩ := h; rfl)
theorem av__law_sound : Av P w K mg base xcs 5 "_law_sound" sp__law_sound := by
  obtain ⟨fd, F⟩ := c.def_ 18 (d := d__law_sound) rfl
  have S : FnScope n__law_sound p__law_sound (defScope s__law_sound) := ⟨rfl, rfl, rfl, by decide +kernel, rfl, by decide +kernel, by decide +kernel⟩
  refine def_av (k := 3) (cl := cl__law_sound) (st := s__law_sound) ((wd X G c cx).mono (by decide)) (fun p hp => ?_) (funD_fun F) (He.glo_ok X G (c.fact 18 (f := .glo "_law_sound") rfl)) (FunD.bindsN F fun _ _ _ _ _ _ us hl => match us, hl with | [_], _ => rfl) (by decide +kernel) S c__law_sound (fun us G Q E h => ?_) w__law_sound
  · unfold cl__law_sound at hp
    simp only [List.mem_cons, List.mem_nil_iff, or_false] at hp
    rcases hp with rfl | rfl
    · exact (av__law_pick X G c cx).mono (by decide)
    · exact (av__law_worth X G c cx).mono (by decide)
  · first | (obtain ⟨rfl, _⟩ := h; rfl) | (obtain ⟨_, rfl, _⟩ := h; rfl) | (obtain ⟨_, _, rfl, _⟩ := h; rfl) | (obtain ⟨_, _, _, rfl, _⟩ := h; rfl) | (obtain ⟨_, _, _, _, rfl, _⟩ := h; rfl) | (obtain ⟨_, _, _, _, _, rfl, _⟩ := h; rfl) | (obtain ⟨_, _, _, _, _, _, rfl, _⟩ := h; rfl) | (obtain ⟨_, _, _, _, _, _, _, rfl, _⟩ := h; rfl)
theorem av__law_points : Av P w K mg base xcs 5 "_law_points" sp__law_points := by
  obtain ⟨fd, F⟩ := c.def_ 19 (d := d__law_points) rfl
  have S : FnScope n__law_points p__law_points (defScope s__law_points) := ⟨rfl, rfl, rfl, by decide +kernel, rfl, by decide +kernel, by decide +kernel⟩
  refine def_av (k := 3) (cl := cl__law_points) (st := s__law_points) ((wd X G c cx).mono (by decide)) (fun p hp => ?_) (funD_fun F) (He.glo_ok X G (c.fact 19 (f := .glo "_law_points") rfl)) (FunD.bindsN F fun _ _ _ _ _ _ us hl => match us, hl with | [_], _ => rfl) (by decide +kernel) S c__law_points (fun us G Q E h => ?_) w__law_points
  · unfold cl__law_points at hp
    simp only [List.mem_cons, List.mem_nil_iff, or_false] at hp
    rcases hp with rfl | rfl
    · exact (av__law_pick X G c cx).mono (by decide)
    · exact (av__law_worth X G c cx).mono (by decide)
  · first | (obtain ⟨rfl, _⟩ := h; rfl) | (obtain ⟨_, rfl, _⟩ := h; rfl) | (obtain ⟨_, _, rfl, _⟩ := h; rfl) | (obtain ⟨_, _, _, rfl, _⟩ := h; rfl) | (obtain ⟨_, _, _, _, rfl, _⟩ := h; rfl) | (obtain ⟨_, _, _, _, _, rfl, _⟩ := h; rfl) | (obtain ⟨_, _, _, _, _, _, rfl, _⟩ := h; rfl) | (obtain ⟨_, _, _, _, _, _, _, rfl, _⟩ := h; rfl)
theorem av__law_due : Av P w K mg base xcs 5 "_law_due" sp__law_due := by
  obtain ⟨fd, F⟩ := c.def_ 24 (d := d__law_due) rfl
  have S : FnScope n__law_due p__law_due (defScope s__law_due) := ⟨rfl, rfl, rfl, by decide +kernel, rfl, by decide +kernel, by decide +kernel⟩
  refine def_av (k := 3) (cl := cl__law_due) (st := s__law_due) ((wd X G c cx).mono (by decide)) (fun p hp => ?_) (funD_fun F) (He.glo_ok X G (c.fact 24 (f := .glo "_law_due") rfl)) (FunD.bindsN F fun _ _ _ _ _ _ us hl => match us, hl with | [_], _ => rfl) (by decide +kernel) S c__law_due (fun us G Q E h => ?_) w__law_due
  · unfold cl__law_due at hp
    simp only [List.mem_cons, List.mem_nil_iff, or_false] at hp
    rcases hp with rfl | rfl | rfl
    · exact (av__law_mixed X G c cx).mono (by decide)
    · exact (av__law_faded X G c cx).mono (by decide)
    · exact (av__law_curve X G c cx).mono (by decide)
  · first | (obtain ⟨rfl, _⟩ := h; rfl) | (obtain ⟨_, rfl, _⟩ := h; rfl) | (obtain ⟨_, _, rfl, _⟩ := h; rfl) | (obtain ⟨_, _, _, rfl, _⟩ := h; rfl) | (obtain ⟨_, _, _, _, rfl, _⟩ := h; rfl) | (obtain ⟨_, _, _, _, _, rfl, _⟩ := h; rfl) | (obtain ⟨_, _, _, _, _, _, rfl, _⟩ := h; rfl) | (obtain ⟨_, _, _, _, _, _, _, rfl, _⟩ := h; rfl)
theorem av__law_bad_deeds : Av P w K mg base xcs 5 "_law_bad_deeds" sp__law_bad_deeds := by
  obtain ⟨fd, F⟩ := c.def_ 34 (d := d__law_bad_deeds) rfl
  have S : FnScope n__law_bad_deeds p__law_bad_deeds (defScope s__law_bad_deeds) := ⟨rfl, rfl, rfl, by decide +kernel, rfl, by decide +kernel, by decide +kernel⟩
  refine def_av (k := 3) (cl := cl__law_bad_deeds) (st := s__law_bad_deeds) ((wd X G c cx).mono (by decide)) (fun p hp => ?_) (funD_fun F) (He.glo_ok X G (c.fact 34 (f := .glo "_law_bad_deeds") rfl)) (FunD.bindsN F fun _ _ _ _ _ _ us hl => match us, hl with | [_, _], _ => rfl) (by decide +kernel) S c__law_bad_deeds (fun us G Q E h => ?_) w__law_bad_deeds
  · unfold cl__law_bad_deeds at hp
    simp only [List.mem_cons, List.mem_nil_iff, or_false] at hp
    rcases hp with rfl | rfl | rfl | rfl | rfl | rfl
    · exact (av__law_bad_cut X G c cx).mono (by decide)
    · exact (av__law_bad_joined X G c cx).mono (by decide)
    · exact (av__law_pick X G c cx).mono (by decide)
    · exact (av__law_bad_parts X G c cx).mono (by decide)
    · exact (av__law_bad_points X G c cx).mono (by decide)
    · exact (av__law_bad_sound X G c cx).mono (by decide)
  · first | (obtain ⟨rfl, _⟩ := h; rfl) | (obtain ⟨_, rfl, _⟩ := h; rfl) | (obtain ⟨_, _, rfl, _⟩ := h; rfl) | (obtain ⟨_, _, _, rfl, _⟩ := h; rfl) | (obtain ⟨_, _, _, _, rfl, _⟩ := h; rfl) | (obtain ⟨_, _, _, _, _, rfl, _⟩ := h; rfl) | (obtain ⟨_, _, _, _, _, _, rfl, _⟩ := h; rfl) | (obtain ⟨_, _, _, _, _, _, _, rfl, _⟩ := h; rfl)
theorem av_cut : Av P w K mg base xcs 6 "cut" sp_cut := by
  obtain ⟨fd, F⟩ := c.def_ 9 (d := d_cut) rfl
  have S : FnScope n_cut p_cut (defScope s_cut) := ⟨rfl, rfl, rfl, by decide +kernel, rfl, by decide +kernel, by decide +kernel⟩
  refine def_av (k := 4) (cl := cl_cut) (st := s_cut) ((wd X G c cx).mono (by decide)) (fun p hp => ?_) (funD_fun F) (He.glo_ok X G (c.fact 9 (f := .glo "cut") rfl)) (FunD.bindsN F fun _ _ _ _ _ _ us hl => match us, hl with | [_, _, _], _ => rfl) (by decide +kernel) S c_cut (fun us G Q E h => ?_) w_cut
  · unfold cl_cut at hp
    simp only [List.mem_cons, List.mem_nil_iff, or_false] at hp
    rcases hp with rfl | rfl
    · exact (av_is_sound X G c cx).mono (by decide)
    · exact (av_is_number X G c cx).mono (by decide)
  · first | (obtain ⟨rfl, _⟩ := h; rfl) | (obtain ⟨_, rfl, _⟩ := h; rfl) | (obtain ⟨_, _, rfl, _⟩ := h; rfl) | (obtain ⟨_, _, _, rfl, _⟩ := h; rfl) | (obtain ⟨_, _, _, _, rfl, _⟩ := h; rfl) | (obtain ⟨_, _, _, _, _, rfl, _⟩ := h; rfl) | (obtain ⟨_, _, _, _, _, _, rfl, _⟩ := h; rfl) | (obtain ⟨_, _, _, _, _, _, _, rfl, _⟩ := h; rfl)
theorem av_joined : Av P w K mg base xcs 6 "joined" sp_joined := by
  obtain ⟨fd, F⟩ := c.def_ 10 (d := d_joined) rfl
  have S : FnScope n_joined p_joined (defScope s_joined) := ⟨rfl, rfl, rfl, by decide +kernel, rfl, by decide +kernel, by decide +kernel⟩
  refine def_av (k := 4) (cl := cl_joined) (st := s_joined) ((wd X G c cx).mono (by decide)) (fun p hp => ?_) (funD_fun F) (He.glo_ok X G (c.fact 10 (f := .glo "joined") rfl)) (FunD.bindsN F fun _ _ _ _ _ _ us hl => match us, hl with | [_], _ => rfl) (by decide +kernel) S c_joined (fun us G Q E h => ?_) w_joined
  · unfold cl_joined at hp
    simp only [List.mem_cons, List.mem_nil_iff, or_false] at hp
    rcases hp with rfl
    · exact (av_is_sound X G c cx).mono (by decide)
  · first | (obtain ⟨rfl, _⟩ := h; rfl) | (obtain ⟨_, rfl, _⟩ := h; rfl) | (obtain ⟨_, _, rfl, _⟩ := h; rfl) | (obtain ⟨_, _, _, rfl, _⟩ := h; rfl) | (obtain ⟨_, _, _, _, rfl, _⟩ := h; rfl) | (obtain ⟨_, _, _, _, _, rfl, _⟩ := h; rfl) | (obtain ⟨_, _, _, _, _, _, rfl, _⟩ := h; rfl) | (obtain ⟨_, _, _, _, _, _, _, rfl, _⟩ := h; rfl)
theorem av__is_sound_part : Av P w K mg base xcs 6 "_is_sound_part" sp__is_sound_part := by
  obtain ⟨fd, F⟩ := c.def_ 11 (d := d__is_sound_part) rfl
  have S : FnScope n__is_sound_part p__is_sound_part (defScope s__is_sound_part) := ⟨rfl, rfl, rfl, by decide +kernel, rfl, by decide +kernel, by decide +kernel⟩
  refine def_av (k := 4) (cl := cl__is_sound_part) (st := s__is_sound_part) ((wd X G c cx).mono (by decide)) (fun p hp => ?_) (funD_fun F) (He.glo_ok X G (c.fact 11 (f := .glo "_is_sound_part") rfl)) (FunD.bindsN F fun _ _ _ _ _ _ us hl => match us, hl with | [_], _ => rfl) (by decide +kernel) S c__is_sound_part (fun us G Q E h => ?_) w__is_sound_part
  · unfold cl__is_sound_part at hp
    simp only [List.mem_cons, List.mem_nil_iff, or_false] at hp
    rcases hp with rfl | rfl
    · exact (av_is_number X G c cx).mono (by decide)
    · exact (av_is_sound X G c cx).mono (by decide)
  · first | (obtain ⟨rfl, _⟩ := h; rfl) | (obtain ⟨_, rfl, _⟩ := h; rfl) | (obtain ⟨_, _, rfl, _⟩ := h; rfl) | (obtain ⟨_, _, _, rfl, _⟩ := h; rfl) | (obtain ⟨_, _, _, _, rfl, _⟩ := h; rfl) | (obtain ⟨_, _, _, _, _, rfl, _⟩ := h; rfl) | (obtain ⟨_, _, _, _, _, _, rfl, _⟩ := h; rfl) | (obtain ⟨_, _, _, _, _, _, _, rfl, _⟩ := h; rfl)
theorem av_faded : Av P w K mg base xcs 6 "faded" sp_faded := by
  obtain ⟨fd, F⟩ := c.def_ 13 (d := d_faded) rfl
  have S : FnScope n_faded p_faded (defScope s_faded) := ⟨rfl, rfl, rfl, by decide +kernel, rfl, by decide +kernel, by decide +kernel⟩
  refine def_av (k := 4) (cl := cl_faded) (st := s_faded) ((wd X G c cx).mono (by decide)) (fun p hp => ?_) (funD_fun F) (He.glo_ok X G (c.fact 13 (f := .glo "faded") rfl)) (FunD.bindsN F fun _ _ _ _ _ _ us hl => match us, hl with | [_, _], _ => rfl) (by decide +kernel) S c_faded (fun us G Q E h => ?_) w_faded
  · unfold cl_faded at hp
    simp only [List.mem_cons, List.mem_nil_iff, or_false] at hp
    rcases hp with rfl | rfl | rfl | rfl | rfl
    · exact (av_is_sound X G c cx).mono (by decide)
    · exact (av_is_points X G c cx).mono (by decide)
    · exact (av_curve_at X G c cx).mono (by decide)
    · exact (av_clip X G c cx).mono (by decide)
    · exact (av_turned X G c cx).mono (by decide)
  · first | (obtain ⟨rfl, _⟩ := h; rfl) | (obtain ⟨_, rfl, _⟩ := h; rfl) | (obtain ⟨_, _, rfl, _⟩ := h; rfl) | (obtain ⟨_, _, _, rfl, _⟩ := h; rfl) | (obtain ⟨_, _, _, _, rfl, _⟩ := h; rfl) | (obtain ⟨_, _, _, _, _, rfl, _⟩ := h; rfl) | (obtain ⟨_, _, _, _, _, _, rfl, _⟩ := h; rfl) | (obtain ⟨_, _, _, _, _, _, _, rfl, _⟩ := h; rfl)
theorem av_turned_back : Av P w K mg base xcs 6 "turned_back" sp_turned_back := by
  obtain ⟨fd, F⟩ := c.def_ 14 (d := d_turned_back) rfl
  have S : FnScope n_turned_back p_turned_back (defScope s_turned_back) := ⟨rfl, rfl, rfl, by decide +kernel, rfl, by decide +kernel, by decide +kernel⟩
  refine def_av (k := 4) (cl := cl_turned_back) (st := s_turned_back) ((wd X G c cx).mono (by decide)) (fun p hp => ?_) (funD_fun F) (He.glo_ok X G (c.fact 14 (f := .glo "turned_back") rfl)) (FunD.bindsN F fun _ _ _ _ _ _ us hl => match us, hl with | [_], _ => rfl) (by decide +kernel) S c_turned_back (fun us G Q E h => ?_) w_turned_back
  · unfold cl_turned_back at hp
    simp only [List.mem_cons, List.mem_nil_iff, or_false] at hp
    rcases hp with rfl
    · exact (av_is_sound X G c cx).mono (by decide)
  · first | (obtain ⟨rfl, _⟩ := h; rfl) | (obtain ⟨_, rfl, _⟩ := h; rfl) | (obtain ⟨_, _, rfl, _⟩ := h; rfl) | (obtain ⟨_, _, _, rfl, _⟩ := h; rfl) | (obtain ⟨_, _, _, _, rfl, _⟩ := h; rfl) | (obtain ⟨_, _, _, _, _, rfl, _⟩ := h; rfl) | (obtain ⟨_, _, _, _, _, _, rfl, _⟩ := h; rfl) | (obtain ⟨_, _, _, _, _, _, _, rfl, _⟩ := h; rfl)
theorem av__law_deed : Av P w K mg base xcs 6 "_law_deed" sp__law_deed := by
  obtain ⟨fd, F⟩ := c.def_ 26 (d := d__law_deed) rfl
  have S : FnScope n__law_deed p__law_deed (defScope s__law_deed) := ⟨rfl, rfl, rfl, by decide +kernel, rfl, by decide +kernel, by decide +kernel⟩
  refine def_av (k := 4) (cl := cl__law_deed) (st := s__law_deed) ((wd X G c cx).mono (by decide)) (fun p hp => ?_) (funD_fun F) (He.glo_ok X G (c.fact 26 (f := .glo "_law_deed") rfl)) (FunD.bindsN F fun _ _ _ _ _ _ us hl => match us, hl with | [_, _], _ => rfl) (by decide +kernel) S c__law_deed (fun us G Q E h => ?_) w__law_deed
  · unfold cl__law_deed at hp
    simp only [List.mem_cons, List.mem_nil_iff, or_false] at hp
    rcases hp with rfl | rfl
    · exact (av__law_pick X G c cx).mono (by decide)
    · exact (av__law_points X G c cx).mono (by decide)
  · first | (obtain ⟨rfl, _⟩ := h; rfl) | (obtain ⟨_, rfl, _⟩ := h; rfl) | (obtain ⟨_, _, rfl, _⟩ := h; rfl) | (obtain ⟨_, _, _, rfl, _⟩ := h; rfl) | (obtain ⟨_, _, _, _, rfl, _⟩ := h; rfl) | (obtain ⟨_, _, _, _, _, rfl, _⟩ := h; rfl) | (obtain ⟨_, _, _, _, _, _, rfl, _⟩ := h; rfl) | (obtain ⟨_, _, _, _, _, _, _, rfl, _⟩ := h; rfl)
theorem av_mixed : Av P w K mg base xcs 7 "mixed" sp_mixed := by
  obtain ⟨fd, F⟩ := c.def_ 12 (d := d_mixed) rfl
  have S : FnScope n_mixed p_mixed (defScope s_mixed) := ⟨rfl, rfl, rfl, by decide +kernel, rfl, by decide +kernel, by decide +kernel⟩
  refine def_av (k := 5) (cl := cl_mixed) (st := s_mixed) ((wd X G c cx).mono (by decide)) (fun p hp => ?_) (funD_fun F) (He.glo_ok X G (c.fact 12 (f := .glo "mixed") rfl)) (FunD.bindsN F fun _ _ _ _ _ _ us hl => match us, hl with | [_], _ => rfl) (by decide +kernel) S c_mixed (fun us G Q E h => ?_) w_mixed
  · unfold cl_mixed at hp
    simp only [List.mem_cons, List.mem_nil_iff, or_false] at hp
    rcases hp with rfl | rfl
    · exact (av__is_sound_part X G c cx).mono (by decide)
    · exact (av_clip X G c cx).mono (by decide)
  · first | (obtain ⟨rfl, _⟩ := h; rfl) | (obtain ⟨_, rfl, _⟩ := h; rfl) | (obtain ⟨_, _, rfl, _⟩ := h; rfl) | (obtain ⟨_, _, _, rfl, _⟩ := h; rfl) | (obtain ⟨_, _, _, _, rfl, _⟩ := h; rfl) | (obtain ⟨_, _, _, _, _, rfl, _⟩ := h; rfl) | (obtain ⟨_, _, _, _, _, _, rfl, _⟩ := h; rfl) | (obtain ⟨_, _, _, _, _, _, _, rfl, _⟩ := h; rfl)
theorem av__law_told : Av P w K mg base xcs 8 "_law_told" sp__law_told := by
  obtain ⟨fd, F⟩ := c.def_ 25 (d := d__law_told) rfl
  have S : FnScope n__law_told p__law_told (defScope s__law_told) := ⟨rfl, rfl, rfl, by decide +kernel, rfl, by decide +kernel, by decide +kernel⟩
  refine def_av (k := 6) (cl := cl__law_told) (st := s__law_told) ((wd X G c cx).mono (by decide)) (fun p hp => ?_) (funD_fun F) (He.glo_ok X G (c.fact 25 (f := .glo "_law_told") rfl)) (FunD.bindsN F fun _ _ _ _ _ _ us hl => match us, hl with | [_], _ => rfl) (by decide +kernel) S c__law_told (fun us G Q E h => ?_) w__law_told
  · unfold cl__law_told at hp
    simp only [List.mem_cons, List.mem_nil_iff, or_false] at hp
    rcases hp with rfl | rfl | rfl | rfl | rfl
    · exact (av_cut X G c cx).mono (by decide)
    · exact (av_joined X G c cx).mono (by decide)
    · exact (av_mixed X G c cx).mono (by decide)
    · exact (av_faded X G c cx).mono (by decide)
    · exact (av_turned_back X G c cx).mono (by decide)
  · first | (obtain ⟨rfl, _⟩ := h; rfl) | (obtain ⟨_, rfl, _⟩ := h; rfl) | (obtain ⟨_, _, rfl, _⟩ := h; rfl) | (obtain ⟨_, _, _, rfl, _⟩ := h; rfl) | (obtain ⟨_, _, _, _, rfl, _⟩ := h; rfl) | (obtain ⟨_, _, _, _, _, rfl, _⟩ := h; rfl) | (obtain ⟨_, _, _, _, _, _, rfl, _⟩ := h; rfl) | (obtain ⟨_, _, _, _, _, _, _, rfl, _⟩ := h; rfl)
theorem av__law_refused : Av P w K mg base xcs 9 "_law_refused" sp__law_refused := by
  obtain ⟨fd, F⟩ := c.def_ 32 (d := d__law_refused) rfl
  have S : FnScope n__law_refused p__law_refused (defScope s__law_refused) := ⟨rfl, rfl, rfl, by decide +kernel, rfl, by decide +kernel, by decide +kernel⟩
  refine def_av (k := 7) (cl := cl__law_refused) (st := s__law_refused) ((wd X G c cx).mono (by decide)) (fun p hp => ?_) (funD_fun F) (He.glo_ok X G (c.fact 32 (f := .glo "_law_refused") rfl)) (FunD.bindsN F fun _ _ _ _ _ _ us hl => match us, hl with | [_], _ => rfl) (by decide +kernel) S c__law_refused (fun us G Q E h => ?_) w__law_refused
  · unfold cl__law_refused at hp
    simp only [List.mem_cons, List.mem_nil_iff, or_false] at hp
    rcases hp with rfl
    · exact (av__law_told X G c cx).mono (by decide)
  · first | (obtain ⟨rfl, _⟩ := h; rfl) | (obtain ⟨_, rfl, _⟩ := h; rfl) | (obtain ⟨_, _, rfl, _⟩ := h; rfl) | (obtain ⟨_, _, _, rfl, _⟩ := h; rfl) | (obtain ⟨_, _, _, _, rfl, _⟩ := h; rfl) | (obtain ⟨_, _, _, _, _, rfl, _⟩ := h; rfl) | (obtain ⟨_, _, _, _, _, _, rfl, _⟩ := h; rfl) | (obtain ⟨_, _, _, _, _, _, _, rfl, _⟩ := h; rfl)
theorem ok_law {f : Addr} {fd : FuncData} (F : Fun K "law" "law" s_law f fd) : FnOk P w K mg base (L2.CX P w) 10 f fd p_law (cSp K mg ⟨[], [], xcs⟩ spLaw) := by
  have S : FnScope n_law p_law (defScope s_law) := ⟨rfl, rfl, rfl, by decide +kernel, rfl, by decide +kernel, by decide +kernel⟩
  refine def_ok (k := 8) (cl := cl_law) (st := s_law) ((wd X G c cx).mono (by decide)) (fun p hp => ?_) F S c_law (fun us G Q E h => ?_) w_law
  · unfold cl_law at hp
    simp only [List.mem_cons, List.mem_nil_iff, or_false] at hp
    rcases hp with rfl | rfl | rfl | rfl | rfl | rfl | rfl | rfl | rfl
    · exact (av__law_purse X G c cx).mono (by decide)
    · exact (av__law_pick X G c cx).mono (by decide)
    · exact (av__law_sound X G c cx).mono (by decide)
    · exact (av__law_deed X G c cx).mono (by decide)
    · exact (av__law_due X G c cx).mono (by decide)
    · exact (av__law_told X G c cx).mono (by decide)
    · exact (av__law_is_sound X G c cx).mono (by decide)
    · exact (av__law_bad_deeds X G c cx).mono (by decide)
    · exact (av__law_refused X G c cx).mono (by decide)
  · first | (obtain ⟨rfl, _⟩ := h; rfl) | (obtain ⟨_, rfl, _⟩ := h; rfl) | (obtain ⟨_, _, rfl, _⟩ := h; rfl) | (obtain ⟨_, _, _, rfl, _⟩ := h; rfl) | (obtain ⟨_, _, _, _, rfl, _⟩ := h; rfl) | (obtain ⟨_, _, _, _, _, rfl, _⟩ := h; rfl) | (obtain ⟨_, _, _, _, _, _, rfl, _⟩ := h; rfl) | (obtain ⟨_, _, _, _, _, _, _, rfl, _⟩ := h; rfl)
end
end K79
open PySem PySem.W PySem.Calls PyProof.Rows
theorem PySem.Challenge.cw_samesamples_k79_whole_sounds_by_rows_holds : PySem.Challenge.rw_samesamples_k79_whole_sounds_by_rows.Holds := by
  w_on; o_law
  refine HandSHeadRun.head_any (r := OpenLaw.row PySem.Challenge.rw_samesamples_k79_whole_sounds_by_rows) (q := view (OpenLaw.row PySem.Challenge.rw_samesamples_k79_whole_sounds_by_rows).prog [46]) (H := K79.hk) (ob := K79.ob) (M := 4000) (loose := K79.loose) (d := HandSHeadRun.topDef (OpenLaw.row PySem.Challenge.rw_samesamples_k79_whole_sounds_by_rows).prog 46) (kwd := []) K79.ob_eq
    (by kernel_rfl) (fun s => by kernel_rfl) K79.run (by kernel_rfl) (by kernel_rfl) (by kernel_rfl) (by rfl) (by first | assumption | decide +kernel) (by decide +kernel) ⟨rfl, rfl, rfl, rfl, rfl, by decide +kernel⟩ ?hw ?hc
  case hw => w_witness2
  case hc =>
    refine L2.walk_ofE (l := PySem.Challenge.rw_samesamples_k79_whole_sounds_by_rows) (n := 63) (k := 10) (x := "_law_script") (CX := UL.CXA (PySem.Challenge.rw_samesamples_k79_whole_sounds_by_rows).prog) rfl (by decide) (by kernel_rfl) ⟨rfl, by decide, by decide⟩ ?F UL.cxa_end
    intro w mg fa h Y G hmg0
    obtain ⟨K, KX, c, cx⟩ := Y
    have hmg : mg ("law" : PySem.Str) = some (.ref fa) := by
      have e : (HandSHeadRun.topDef (OpenLaw.row PySem.Challenge.rw_samesamples_k79_whole_sounds_by_rows).prog 46).name = ("law" : PySem.Str) := by kernel_rfl
      rw [← e]
      exact hmg0
    obtain ⟨fd, F⟩ := c.def_ 35 (d := K79.d_law) rfl
    have e := hmg.symm.trans (He.glo_ok KX G (c.fact 35 (f := .glo "law") rfl))
    cases e
    have b := L2.FunD.bindsA (ps := K79.p_law) F fun _ _ _ _ _ _ us hl => match us, hl with | [_], _ => rfl
    exact ⟨K, fd, UL.cSp K mg ⟨[], [], K79.xcs⟩ K79.spLaw, KX, fun s v => b s [v] rfl, fun H a ns hl hO hS => UL.sp_law hO hS ⟨ns, rfl, hl, fun _ => rfl⟩, fun base _ _ => UL.fn_cx (K79.ok_law KX G c cx (UL.funD_fun F)) fun _ _ _ _ _ _ z => ⟨_, z⟩⟩
