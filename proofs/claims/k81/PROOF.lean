import PyProof.Rows.All
import Wide.All
import OpenK.AllK
import Wide.FinOn
import HandS.ForMost
import HandS.ForExc
import HandS.Deep
import HandS.Wide
import HandS.WideBits
import HandS.HeadHook1
import HandS.ExcCtx
import HandS.HotCalls
import HandS.ExcInitHot
import HandS.ExcIs
import HandS.TupMul
import HandS.TupAny
import HandS.IsInst
import HandS.Style
import HandS.SortInts
import HandS.Strs
import HandS.TupLe
import KE.GoesEnum
import HandS.Iter
import HandS.Flow
import HandS.More
import HandS.Exc
import HandS.ExcOwn
import HandS.CallSlots
import KE.DataMinMax
import PyProof.Rows.CallKwBuiltin
import ObjForm.LawKit
import HandS.DictComp
import KE.KDictPairs
import HandS.Call
import HandS.CallRecv
import HandS.List
import KE.KExcIs
import HandS.FStr
import HandS.TryOnly
import HandS.ExcInit
import HandS.Small
import HandS.WordsExc
import KE.KStateDown
import HandS.Defaults
import HandS.Head0
import HandS.Head1
import HandS.Head2
import HandS.HeadEnd
import HandS.HeadHook2
import KE.KExcInit
import PySem.Challenge.RW_samesamples_k81_sounds_texts
import HandS.Codes
set_option Elab.async false
set_option linter.all false
set_option autoImplicit false
set_option maxRecDepth 100000
set_option maxHeartbeats 4000000
/-! UL1: values with tuples by value, their relation to the layer below, the abstract heap. -/
namespace UL
open PySem PySem.Spec L2

/-- a value: tuples (and the locked script list, rol) by content -/
inductive U where
  | non | bl (b : Bool) | int (i : Int) | str (x : Str) | tup (us : List U) | rol (us : List U) | ref (a : Addr) | ty (n : String)

/-- a list that never changes: locked, or of the module -/
def Frz (K : PySem.W.Frag) (H : Hp) (a : Addr) (xs : List V) : Prop :=
  (∃ o, H a = some (.frz o (.lst xs))) ∨
    ∃ (o : Obj) (its : Array Value) (n : Nat), K.lookup a = some o ∧ o.cls = .type "list" ∧ o.dict = none ∧ o.data = .seq its n ∧ its.size ≤ sizeLine ∧ Vals xs its.toList
theorem Frz.sq {K : PySem.W.Frag} {H : Hp} {a : Addr} {xs : List V} (h : Frz K H a xs) : SqL K H a xs := by
  rcases h with h | h
  · exact .inl (.inr h)
  · exact .inr h

mutual
inductive RU (K : PySem.W.Frag) (H : Hp) : U → V → Prop
  | non : RU K H .non .non
  | bl (b : Bool) : RU K H (.bl b) (.bl b)
  | int (i : Int) : RU K H (.int i) (.int i)
  | str (x : Str) : RU K H (.str x) (.str x)
  | tup {a : Addr} {xs : List V} {us : List U} : SqT K H a xs → RUs K H us xs → RU K H (.tup us) (.ref a)
  | rol {a : Addr} {xs : List V} {us : List U} : Frz K H a xs → RUs K H us xs → RU K H (.rol us) (.ref a)
  | ref (a : Addr) : RU K H (.ref a) (.ref a)
  | ty (n : String) : RU K H (.ty n) (.ty n)
inductive RUs (K : PySem.W.Frag) (H : Hp) : List U → List V → Prop
  | nil : RUs K H [] []
  | cons {u : U} {us : List U} {x : V} {xs : List V} : RU K H u x → RUs K H us xs → RUs K H (u :: us) (x :: xs)
end

/-- what never changes stays -/
structure Ext (H H' : Hp) : Prop where
  t : ∀ a xs, H a = some (.tup xs) → H' a = some (.tup xs)
  f : ∀ a o u, H a = some (.frz o u) → H' a = some (.frz o u)
theorem Ext.refl {H : Hp} : Ext H H := ⟨fun _ _ h => h, fun _ _ _ h => h⟩
theorem Ext.trans {H1 H2 H3 : Hp} (a : Ext H1 H2) (b : Ext H2 H3) : Ext H1 H3 := ⟨fun c xs h => b.t c xs (a.t c xs h), fun c o u h => b.f c o u (a.f c o u h)⟩
theorem Ext.new {H : Hp} {p : Addr} {o : HO} (h : H p = none) : Ext H (upd H p o) :=
  ⟨fun a xs e => by rw [upd_ne (ne_of_none e h)]; exact e, fun a o' u e => by rw [upd_ne (ne_of_none e h)]; exact e⟩
theorem Ext.wr {H : Hp} {p : Addr} {o q : HO} (h : H p = some q) (h1 : ∀ xs, q ≠ .tup xs) (h2 : ∀ o u, q ≠ .frz o u) : Ext H (upd H p o) :=
  ⟨fun a xs e => by
    have n : a ≠ p := fun z => by subst z; rw [h] at e; exact h1 xs (Option.some.inj e)
    rw [upd_ne n]; exact e,
   fun a o' u e => by
    have n : a ≠ p := fun z => by subst z; rw [h] at e; exact h2 o' u (Option.some.inj e)
    rw [upd_ne n]; exact e⟩
section
variable {K : PySem.W.Frag} {H H' : Hp}
theorem SqT.ext (e : Ext H H') {a : Addr} {xs : List V} (h : SqT K H a xs) : SqT K H' a xs := by
  rcases h with (h | ⟨o, h⟩) | h
  · exact .inl (.inl (e.t _ _ h))
  · exact .inl (.inr ⟨o, e.f _ _ _ h⟩)
  · exact .inr h
theorem Frz.ext (e : Ext H H') {a : Addr} {xs : List V} (h : Frz K H a xs) : Frz K H' a xs := by
  rcases h with ⟨o, h⟩ | h
  · exact .inl ⟨o, e.f _ _ _ h⟩
  · exact .inr h
mutual
theorem RU.ext (e : Ext H H') : ∀ {u : U} {v : V}, RU K H u v → RU K H' u v
  | _, _, .non => .non
  | _, _, .bl b => .bl b
  | _, _, .int i => .int i
  | _, _, .str x => .str x
  | _, _, .tup h r => .tup (SqT.ext e h) (RUs.ext e r)
  | _, _, .rol h r => .rol (Frz.ext e h) (RUs.ext e r)
  | _, _, .ref a => .ref a
  | _, _, .ty n => .ty n
theorem RUs.ext (e : Ext H H') : ∀ {us : List U} {vs : List V}, RUs K H us vs → RUs K H' us vs
  | _, _, .nil => .nil
  | _, _, .cons r t => .cons (RU.ext e r) (RUs.ext e t)
end
theorem RUs.length : ∀ {us : List U} {vs : List V}, RUs K H us vs → us.length = vs.length
  | _, _, .nil => rfl
  | _, _, .cons _ t => congrArg (· + 1) (RUs.length t)
theorem RUs.get : ∀ {us : List U} {vs : List V} {i : Nat} {u : U}, RUs K H us vs → us[i]? = some u → ∃ v, vs[i]? = some v ∧ RU K H u v
  | _, _, _, _, .nil, e => by simp at e
  | _, _, 0, _, .cons r _, e => by simp at e; subst e; exact ⟨_, rfl, r⟩
  | _, _, i + 1, u, .cons _ t, e => by
    obtain ⟨v, h1, h2⟩ := RUs.get (i := i) (u := u) t (by simpa using e)
    exact ⟨v, by simpa using h1, h2⟩
theorem RUs.get' : ∀ {us : List U} {vs : List V} {i : Nat} {v : V}, RUs K H us vs → vs[i]? = some v → ∃ u, us[i]? = some u ∧ RU K H u v
  | _, _, _, _, .nil, e => by simp at e
  | _, _, 0, _, .cons r _, e => by simp at e; subst e; exact ⟨_, rfl, r⟩
  | _, _, i + 1, u, .cons _ t, e => by
    obtain ⟨v, h1, h2⟩ := RUs.get' (i := i) (v := u) t (by simpa using e)
    exact ⟨v, by simpa using h1, h2⟩
theorem RUs.append : ∀ {us ws : List U} {vs xs : List V}, RUs K H us vs → RUs K H ws xs → RUs K H (us ++ ws) (vs ++ xs)
  | _, _, _, _, .nil, s => s
  | _, _, _, _, .cons r t, s => .cons r (RUs.append t s)
theorem RUs.take : ∀ {us : List U} {vs : List V} (n : Nat), RUs K H us vs → RUs K H (us.take n) (vs.take n)
  | _, _, 0, _ => by simp; exact .nil
  | _, _, _ + 1, .nil => by simp; exact .nil
  | _, _, n + 1, .cons r t => by simp; exact .cons r (RUs.take n t)
theorem RUs.drop : ∀ {us : List U} {vs : List V} (n : Nat), RUs K H us vs → RUs K H (us.drop n) (vs.drop n)
  | _, _, 0, r => r
  | _, _, _ + 1, .nil => by simp; exact .nil
  | _, _, n + 1, .cons _ t => by simp; exact RUs.drop n t
theorem RUs.set {u : U} {v : V} (r : RU K H u v) : ∀ {us : List U} {vs : List V} (i : Nat), RUs K H us vs → RUs K H (us.set i u) (vs.set i v)
  | _, _, _, .nil => .nil
  | _, _, 0, .cons _ t => .cons r t
  | _, _, i + 1, .cons q t => .cons q (RUs.set r i t)
theorem RUs.rep {u : U} {v : V} (r : RU K H u v) : ∀ n : Nat, RUs K H (List.replicate n u) (List.replicate n v)
  | 0 => .nil
  | n + 1 => .cons r (RUs.rep r n)
theorem RUs.reps {us : List U} {vs : List V} (r : RUs K H us vs) : ∀ n : Nat, RUs K H (List.replicate n us).flatten (List.replicate n vs).flatten
  | 0 => .nil
  | n + 1 => by simp only [List.replicate_succ, List.flatten_cons]; exact RUs.append r (RUs.reps r n)
theorem RUs.dropLast {us : List U} {vs : List V} (r : RUs K H us vs) : RUs K H us.dropLast vs.dropLast := by
  rw [List.dropLast_eq_take, List.dropLast_eq_take, r.length]
  exact RUs.take _ r
theorem RUs.eraseIdx : ∀ {us : List U} {vs : List V} (i : Nat), RUs K H us vs → RUs K H (us.eraseIdx i) (vs.eraseIdx i)
  | _, _, _, .nil => .nil
  | _, _, 0, .cons _ t => t
  | _, _, i + 1, .cons q t => .cons q (RUs.eraseIdx i t)
theorem RUs.reverse {us : List U} {vs : List V} (r : RUs K H us vs) : RUs K H us.reverse vs.reverse := by
  induction us generalizing vs with
  | nil => cases r; exact .nil
  | cons u us ih =>
    cases r with
    | cons r t => simp only [List.reverse_cons]; exact RUs.append (ih t) (.cons r .nil)
theorem RUs.ints : ∀ {ns : List Int} {vs : List V}, RUs K H (ns.map U.int) vs → vs = ns.map V.int
  | [], _, h => by cases h; rfl
  | n :: ns, _, h => by
    cases h with
    | cons r t => cases r; rw [RUs.ints t]; rfl
theorem RUs.of_ints : ∀ (ns : List Int), RUs K H (ns.map U.int) (ns.map V.int)
  | [] => .nil
  | n :: ns => .cons (.int n) (RUs.of_ints ns)
theorem RUs.bls : ∀ {ns : List Bool} {vs : List V}, RUs K H (ns.map U.bl) vs → vs = ns.map V.bl
  | [], _, h => by cases h; rfl
  | n :: ns, _, h => by
    cases h with
    | cons r t => cases r; rw [RUs.bls t]; rfl
theorem RUs.strs : ∀ {ns : List Str} {vs : List V}, RUs K H (ns.map U.str) vs → vs = ns.map V.str
  | [], _, h => by cases h; rfl
  | n :: ns, _, h => by
    cases h with
    | cons r t => cases r; rw [RUs.strs t]; rfl
theorem RUs.of_strs : ∀ (ns : List Str), RUs K H (ns.map U.str) (ns.map V.str)
  | [] => .nil
  | n :: ns => .cons (.str n) (RUs.of_strs ns)
end

/-! ### the abstract heap of objects that change -/
inductive UO where
  | lst (us : List U)
  | dK (kvs : List (Key × U))
  | ins (x : Str) (ns : List Str) (fs : List (Str × U))
  | xd (fs : List (Str × U))
abbrev UH := Addr → Option UO
def up (G : UH) (a : Addr) (o : UO) : UH := fun b => if b = a then some o else G b
theorem up_same {G : UH} {a : Addr} {o : UO} : up G a o a = some o := by unfold up; rw [if_pos rfl]
theorem up_ne {G : UH} {a b : Addr} {o : UO} (h : b ≠ a) : up G a o b = G b := by unfold up; rw [if_neg h]
theorem up_up {G : UH} {a : Addr} {o u : UO} : up (up G a o) a u = up G a u := by
  funext b; unfold up; split <;> rfl
theorem up_comm {G : UH} {a b : Addr} {o u : UO} (h : a ≠ b) : up (up G a o) b u = up (up G b u) a o := by
  funext c; unfold up
  by_cases h1 : c = b
  · by_cases h2 : c = a
    · exact absurd (h2.symm.trans h1) h
    · rw [if_pos h1, if_neg h2, if_pos h1]
  · rw [if_neg h1]
    by_cases h2 : c = a
    · rw [if_pos h2, if_pos h2]
    · rw [if_neg h2, if_neg h2, if_neg h1]
theorem un_of {G : UH} {a b : Addr} {o : UO} (h : G a = some o) (h' : G b = none) : a ≠ b := by
  intro e; subst e; rw [h] at h'; cases h'
/-- G holds no more than G' -/
def Le (G G' : UH) : Prop := ∀ a o, G a = some o → G' a = some o
theorem Le.refl (G : UH) : Le G G := fun _ _ h => h
theorem Le.trans {G1 G2 G3 : UH} (a : Le G1 G2) (b : Le G2 G3) : Le G1 G3 := fun c o h => b c o (a c o h)
theorem Le.new {G : UH} {p : Addr} {o : UO} (h : G p = none) : Le G (up G p o) := fun a q e => by rw [up_ne (un_of e h)]; exact e

def RKV (K : PySem.W.Frag) (H : Hp) {κ : Type} : List (κ × U) → List (κ × V) → Prop := Paired fun p q => p.1 = q.1 ∧ RU K H p.2 q.2
def RO (K : PySem.W.Frag) (H : Hp) (a : Addr) : UO → Prop
  | .lst us => ∃ xs, H a = some (.lst xs) ∧ RUs K H us xs
  | .dK kvs => ∃ xs, H a = some (.dK xs) ∧ RKV K H kvs xs
  | .ins x ns fs => ∃ dx xs, H a = some (.ins (He.ga K x) dx xs) ∧ RKV K H fs xs ∧ Cls K (He.ga K x) ∧ ∀ f ∈ ns, NoAttr K (He.ga K x) f
  | .xd fs => ∃ xs, H a = some (.xd xs) ∧ RKV K H fs xs
def HR (K : PySem.W.Frag) (G : UH) (H : Hp) : Prop := ∀ a o, G a = some o → RO K H a o
section
variable {K : PySem.W.Frag} {H H' : Hp} {G G' : UH}
theorem RKV.ext (e : Ext H H') {κ : Type} {ks : List (κ × U)} {xs : List (κ × V)} (r : RKV K H ks xs) : RKV K H' ks xs := by
  unfold RKV at *
  induction r with
  | nil => exact .nil
  | cons h _ ih => exact .cons ⟨h.1, RU.ext e h.2⟩ ih
theorem HR.le (r : HR K G' H) (l : Le G G') : HR K G H := fun a o e => r a o (l a o e)
theorem HR.fresh (r : HR K G H) {p : Addr} (h : H p = none) : G p = none := by
  cases q : G p with
  | none => rfl
  | some o =>
    have z := r p o q
    cases o with
    | lst us => obtain ⟨xs, e, _⟩ := z; rw [h] at e; cases e
    | dK us => obtain ⟨xs, e, _⟩ := z; rw [h] at e; cases e
    | ins x ns fs => obtain ⟨_, xs, e, _⟩ := z; rw [h] at e; cases e
    | xd fs => obtain ⟨xs, e, _⟩ := z; rw [h] at e; cases e
theorem RO.keep (e : Ext H H') {a : Addr} (h : H' a = H a) {o : UO} (r : RO K H a o) : RO K H' a o := by
  cases o with
  | lst us => obtain ⟨xs, e1, r⟩ := r; exact ⟨xs, h.trans e1, RUs.ext e r⟩
  | dK us => obtain ⟨xs, e1, r⟩ := r; exact ⟨xs, h.trans e1, RKV.ext e r⟩
  | ins x ns fs => obtain ⟨dx, xs, e1, r, c⟩ := r; exact ⟨dx, xs, h.trans e1, RKV.ext e r, c⟩
  | xd fs => obtain ⟨xs, e1, r⟩ := r; exact ⟨xs, h.trans e1, RKV.ext e r⟩
/-- an object at p is laid or changed -/
theorem HR.put (r : HR K G H) {p : Addr} {o : HO} {u : UO} (e : Ext H (upd H p o)) (n : RO K (upd H p o) p u) : HR K (up G p u) (upd H p o) := fun a q h => by
  by_cases ha : a = p
  · subst ha; rw [up_same] at h; cases h; exact n
  · rw [up_ne ha] at h; exact (r a q h).keep e (upd_ne ha)
/-- an object that G does not tell of is laid or changed -/
theorem HR.side (r : HR K G H) {p : Addr} {o : HO} (e : Ext H (upd H p o)) (n : G p = none) : HR K G (upd H p o) := fun a q h =>
  (r a q h).keep e (upd_ne (un_of h n))
theorem HR.lst (r : HR K G H) {a : Addr} {us : List U} (h : G a = some (.lst us)) : ∃ xs, H a = some (.lst xs) ∧ RUs K H us xs := r a _ h
theorem Ext.lst {a : Addr} {xs ys : List V} (h : H a = some (.lst xs)) : Ext H (upd H a (.lst ys)) := .wr h (fun _ z => by cases z) (fun _ _ z => by cases z)
theorem HR.setLst (r : HR K G H) {a : Addr} {us ws : List U} {ys : List V} (h : G a = some (.lst us)) (q : RUs K H ws ys) : Ext H (upd H a (.lst ys)) ∧ HR K (up G a (.lst ws)) (upd H a (.lst ys)) := by
  obtain ⟨xs, e, _⟩ := r.lst h
  have x : Ext H (upd H a (.lst ys)) := .lst e
  exact ⟨x, r.put x ⟨ys, upd_same, RUs.ext x q⟩⟩
theorem HR.newLst (r : HR K G H) {p : Addr} {ws : List U} {ys : List V} (h : H p = none) (q : RUs K H ws ys) : Ext H (upd H p (.lst ys)) ∧ HR K (up G p (.lst ws)) (upd H p (.lst ys)) := by
  have x : Ext H (upd H p (.lst ys)) := .new h
  exact ⟨x, r.put x ⟨ys, upd_same, RUs.ext x q⟩⟩
theorem HR.newTup (r : HR K G H) {p : Addr} {ws : List U} {ys : List V} (h : H p = none) (q : RUs K H ws ys) : Ext H (upd H p (.tup ys)) ∧ HR K G (upd H p (.tup ys)) ∧ RU K (upd H p (.tup ys)) (.tup ws) (.ref p) := by
  have x : Ext H (upd H p (.tup ys)) := .new h
  exact ⟨x, r.side x (r.fresh h), .tup (SqT.of upd_same) (RUs.ext x q)⟩
end

/-! ### slots -/
abbrev USt := List (Option U)
structure SR (K : PySem.W.Frag) (H : Hp) (s : USt) (σ : L2.St) : Prop where
  len : s.length = σ.length
  at_ : ∀ (i : Nat) (u : U), s[i]? = some (some u) → ∃ v, σ[i]? = some (some v) ∧ RU K H u v
section
variable {K : PySem.W.Frag} {H H' : Hp} {s : USt} {σ : L2.St}
theorem SR.ext (r : SR K H s σ) (e : Ext H H') : SR K H' s σ := ⟨r.len, fun i u h => let ⟨v, h1, h2⟩ := r.at_ i u h; ⟨v, h1, RU.ext e h2⟩⟩
theorem SR.set (r : SR K H s σ) {i : Nat} {u : U} {v : V} (q : RU K H u v) : SR K H (s.set i (some u)) (σ.set i (some v)) := by
  refine ⟨by simp [r.len], fun j w h => ?_⟩
  by_cases hj : i = j
  · subst hj
    by_cases hi : i < s.length
    · rw [List.getElem?_set_self hi] at h
      cases h
      exact ⟨v, by rw [List.getElem?_set_self (by rw [← r.len]; exact hi)], q⟩
    · rw [List.getElem?_eq_none (by simpa using hi)] at h; cases h
  · rw [List.getElem?_set_ne hj] at h
    obtain ⟨x, h1, h2⟩ := r.at_ j w h
    exact ⟨x, by rw [List.getElem?_set_ne hj]; exact h1, h2⟩
theorem SR.unset (r : SR K H s σ) (i : Nat) (o : Option V) : SR K H (s.set i none) (σ.set i o) := by
  refine ⟨by simp [r.len], fun j w h => ?_⟩
  by_cases hj : i = j
  · subst hj
    by_cases hi : i < s.length
    · rw [List.getElem?_set_self hi] at h; cases h
    · rw [List.getElem?_eq_none (by simpa using hi)] at h; cases h
  · rw [List.getElem?_set_ne hj] at h
    obtain ⟨x, h1, h2⟩ := r.at_ j w h
    exact ⟨x, by rw [List.getElem?_set_ne hj]; exact h1, h2⟩
end
end UL
set_option Elab.async false
set_option linter.all false
set_option autoImplicit false
set_option maxRecDepth 100000
set_option maxHeartbeats 4000000
/-! UL0: a tuple times one, times nothing; a slice of a tuple with a step. -/
namespace UL
open PySem PySem.Spec PyProof.Rows L2
/-- nothing of it: a new empty tuple -/
theorem tuple_mul0 (l : Addr) (items : Array Value) (n : Nat) (dd : Option Addr) (sl : Array (Option Value)) (x : Int) (u : Tok) (c0 : (decide (x < -(2 ^ 63)) || decide (x ≥ 2 ^ 63)) = false) (c1 : (items.isEmpty || x == 1) = false) (c2 : (decide (x ≤ 0) || items.isEmpty) = true) :
    Meets (Builtin.«tuple.__mul__» ⟨[.ref l, .int x u], []⟩) (fun _ R s => s.heap.get? l = some { cls := .type "tuple", dict := dd, data := .seq items n, slots := sl } ∧
      R (.ok (.ret (Value.ref s.heap.objs.size))) { s with heap := s.heap.push { cls := Value.type "tuple", data := Data.seq #[] }, toks := s.toks }) :=
  .of_wp fun prog w A R s h => by
    obtain ⟨hp, g, d, tk, os⟩ := s
    obtain ⟨hl, h⟩ := h
    have f1 := AutoSeq1.idx_int
    wp_walk using wpAny_loadPart' hl
    repeat (first
      | (refine wpAny_ite_false (decide_eq_false (by rw [c0]; exact Bool.false_ne_true)) ?_; wp_walk using wpAny_loadPart' hl)
      | (refine wpAny_ite_false (decide_eq_false (by rw [c1]; exact Bool.false_ne_true)) ?_; wp_walk using wpAny_loadPart' hl)
      | (refine wpAny_ite_true (decide_eq_true c2) ?_; wp_walk using wpAny_loadPart' hl))
    exact ⟨_, rfl, h⟩
/-- once: itself -/
theorem tuple_mul1 (l : Addr) (items : Array Value) (n : Nat) (dd : Option Addr) (sl : Array (Option Value)) (u : Tok) :
    Meets (Builtin.«tuple.__mul__» ⟨[.ref l, .int 1 u], []⟩) (fun _ R s => s.heap.get? l = some { cls := .type "tuple", dict := dd, data := .seq items n, slots := sl } ∧ R (.ok (.ret (Value.ref l))) s) :=
  .of_wp fun prog w A R s h => by
    obtain ⟨hp, g, d, tk, os⟩ := s
    obtain ⟨hl, h⟩ := h
    have f1 := AutoSeq1.idx_int
    have c0 : (decide ((1 : Int) < -(2 ^ 63)) || decide ((1 : Int) ≥ 2 ^ 63)) = false := by decide
    have c1 : (items.isEmpty || (1 : Int) == 1) = true := by simp
    wp_walk using wpAny_loadPart' hl
    repeat (first
      | (refine wpAny_ite_false (decide_eq_false (by rw [c0]; exact Bool.false_ne_true)) ?_; wp_walk using wpAny_loadPart' hl)
      | (refine wpAny_ite_true (decide_eq_true c1) ?_; wp_walk using wpAny_loadPart' hl))
    exact ⟨_, rfl, h⟩
section
variable {X : Cx}
def rRep01 (K : PySem.W.Frag) : R2 := fun x y H Q => ∃ l k xs, x = .ref l ∧ y = .int k ∧ SqT K H l xs ∧ xs ≠ [] ∧ ((k = 0 ∧ ∀ p, H p = none → Q (.ref p) (upd H p (.tup []))) ∨ (k = 1 ∧ Q (.ref l) H))
theorem op_rep01 : OpR X (binaryOp .Mult) (rRep01 X.K) := by
  intro pins s σ H x y v u Q I rx ry h
  obtain ⟨l, k, xs, rfl, rfl, hT, hne, q⟩ := h
  cases rx
  obtain ⟨t, rfl⟩ := ry
  obtain ⟨its, r, ⟨⟨cls, dd, data, sl⟩, ho, hc, n, hd⟩, hs⟩ := I.tuple hT
  simp only at hc hd
  subst hc hd
  have hle : its.length = xs.length := r.length.symm
  have hn : its ≠ [] := fun e => hne (by
    rw [e] at hle
    exact List.eq_nil_of_length_eq_zero hle.symm)
  have hi : its.toArray.isEmpty = false := by
    cases its with
    | nil => exact absurd rfl hn
    | cons a b => rfl
  rcases q with ⟨rfl, q⟩ | ⟨rfl, q⟩
  · refine wpAny_binaryOp_repeat_ref (T := "tuple") (U := "int") (by decide) ⟨_, ho, rfl⟩ (fun s' => typeIs_int s' 0 t) noFill_tuple_mul F.fills_int_mul F.slot_int_rmul repeat_tuple F.slot_int_index.lookup
      (call_meets F.slot_int_rmul (typeIs_int s 0 t) F.entry_int_rmul (F.args_int_rmul_2 _ _) (int_rmul_tuple 0 t l its.toArray n dd sl)
        ⟨ho, rfl, ⟨_, ho, rfl⟩, call_meets F.slot_tuple_mul ⟨_, ho, rfl⟩ F.entry_tuple_mul (F.args_tuple_mul_2 _ _) (tuple_mul0 l its.toArray n dd sl 0 t (by decide) (by rw [hi]; rfl) rfl) ⟨ho, ?_⟩⟩)
    exact ⟨.ref s.heap.objs.size, _, I.laid (t' := s.toks) (o := .tup []) (fun b ob q => Heap.get?_push_of_some _ q) (Nat.le_refl _) ⟨Nat.zero_le _, _, .nil, IsTup.new _ _⟩, rfl, q _ (I.hok.fresh (Nat.le_refl _))⟩
  · refine wpAny_binaryOp_repeat_ref (T := "tuple") (U := "int") (by decide) ⟨_, ho, rfl⟩ (fun s' => typeIs_int s' 1 t) noFill_tuple_mul F.fills_int_mul F.slot_int_rmul repeat_tuple F.slot_int_index.lookup
      (call_meets F.slot_int_rmul (typeIs_int s 1 t) F.entry_int_rmul (F.args_int_rmul_2 _ _) (int_rmul_tuple 1 t l its.toArray n dd sl)
        ⟨ho, rfl, ⟨_, ho, rfl⟩, call_meets F.slot_tuple_mul ⟨_, ho, rfl⟩ F.entry_tuple_mul (F.args_tuple_mul_2 _ _) (tuple_mul1 l its.toArray n dd sl t) ⟨ho, ?_⟩⟩)
    exact ⟨.ref l, H, I, rfl, q⟩
/-! ### [::c] -/
def stpLo (c : Int) (n : Nat) : Int := if c < 0 then (n : Int) - 1 else 0
def stpN (c : Int) (n : Nat) : Nat := (if c > 0 then (if (0 : Int) < n then ((n : Int) - 0 - 1) / c + 1 else 0) else (if (n : Int) - 1 > -1 then ((n : Int) - 1 - -1 - 1) / (-c) + 1 else 0)).toNat
def stp {α : Type} (xs : List α) (c : Int) : List α := (List.range (stpN c xs.length)).filterMap fun (m : Nat) => xs[(stpLo c xs.length + (m : Int) * c).toNat]?
section
variable {prog : Program} {w : World} {A : Around} {E : Value → Shared → Prop} {s : Shared}
theorem sliceApplied_step {sl : Addr} {vc : Value} {c : Int} {n : Nat} {Q : Int × Int × Nat → Shared → Prop} (hs : s.heap.IsSliceOf sl .none .none vc) (pc : IsPart vc (some c)) (hc : c ≠ 0)
    (h : Q (stpLo c n, c, stpN c n) s) : wpAny (model prog w) A (Builtin.Slice.sliceApplied (.ref sl) (pure (n : Int))) Q E s := by
  obtain ⟨os, hos, hcs, hds⟩ := id hs
  unfold Builtin.Slice.sliceApplied Builtin.Slice.sliceFields
  refine wpAny_bind (wpAny_bind (wpAny_field hos hds (x := .none) rfl (wpAny_bind (wpAny_field hos hds (x := .none) rfl (wpAny_bind (wpAny_field hos hds (x := vc) rfl (wpAny_pure ?_)))))))
  refine wpAny_bind (HT.slicePart_ pc ?_)
  show wpAny _ _ (if (c == 0) = true then _ else _) _ _ s
  rw [if_neg (by simpa using hc)]
  refine wpAny_bind (slicePart_none (wpAny_bind (slicePart_none (wpAny_bind (wpAny_pure ?_)))))
  show wpAny _ _ (match Builtin.Slice.sliceAdjust none none c (n : Int) with | (lo, hi) => pure (lo, c, Builtin.Slice.slicePlaces lo hi c)) _ _ s
  have e : Builtin.Slice.sliceAdjust none none c (n : Int) = (stpLo c n, if c < 0 then -1 else (n : Int)) := by
    unfold Builtin.Slice.sliceAdjust stpLo
    by_cases h0 : c < 0
    · simp only [h0, if_true]
    · simp only [h0, if_false]
  rw [e]
  refine wpAny_pure ?_
  have e2 : Builtin.Slice.slicePlaces (stpLo c n) (if c < 0 then -1 else (n : Int)) c = stpN c n := by
    unfold Builtin.Slice.slicePlaces stpLo stpN
    by_cases h0 : c < 0
    · have h1 : ¬ c > 0 := by omega
      simp only [h0, h1, if_true, if_false]
    · have h1 : c > 0 := by omega
      simp only [h0, h1, if_true, if_false]
  show Q (stpLo c n, c, Builtin.Slice.slicePlaces (stpLo c n) (if c < 0 then -1 else (n : Int)) c) s
  rw [e2]
  exact h
theorem pick_all {α : Type} : ∀ (xs : List α), (List.range xs.length).filterMap (fun m => xs[m]?) = xs
  | [] => rfl
  | x :: t => by
    rw [List.length_cons, List.range_succ_eq_map, List.filterMap_cons, List.filterMap_map]
    have e : ((fun m => (x :: t)[m]?) ∘ Nat.succ) = fun m => t[m]? := by
      funext m
      simp
    rw [e, pick_all t]
    simp
theorem stp_one {α : Type} (xs : List α) : stp xs 1 = xs := by
  have e : stpN 1 xs.length = xs.length := by
    unfold stpN
    simp only [show (1 : Int) > 0 by decide, if_true]
    split
    · have : ((xs.length : Int) - 0 - 1) / 1 = (xs.length : Int) - 1 := by rw [Int.ediv_one]; omega
      omega
    · omega
  unfold stp
  rw [e]
  unfold stpLo
  have e2 : (fun (m : Nat) => xs[((if (1 : Int) < 0 then (xs.length : Int) - 1 else 0) + (m : Int) * 1).toNat]?) = fun m => xs[m]? := by
    funext m
    have : ((if (1 : Int) < 0 then (xs.length : Int) - 1 else 0) + (m : Int) * 1).toNat = m := by
      rw [if_neg (by decide)]; omega
    rw [this]
  rw [e2]
  exact pick_all xs
theorem stp_len {α : Type} (xs : List α) (c : Int) (hc : c ≠ 0) : (stp xs c).length ≤ xs.length := by
  refine Nat.le_trans (List.length_filterMap_le _ _) ?_
  rw [List.length_range]
  unfold stpN
  split
  · split
    · have := Int.ediv_le_self (b := c) (by omega : 0 ≤ (xs.length : Int) - 0 - 1)
      omega
    · omega
  · split
    · have := Int.ediv_le_self (b := -c) (by omega : 0 ≤ (xs.length : Int) - 1 - -1 - 1)
      omega
    · omega
section
variable {prog : Program} {w : World} {A : Around} {E : Value → Shared → Prop} {s : Shared}
theorem getItem_tuple_step {t sl : Addr} {items : Array Value} {vc : Value} {c : Int} {Q : Value → Shared → Prop} (ht : IsTup s.heap t items) (hs : s.heap.IsSliceOf sl .none .none vc) (pc : IsPart vc (some c)) (hc : c ≠ 0)
    (h1 : c = 1 → Q (.ref t) s)
    (h : c ≠ 1 → Q (.ref s.heap.objs.size) { s with heap := s.heap.push { cls := .type "tuple", data := .seq (stp items.toList c).toArray } })
    (hsz : items.size ≤ sizeLine) : wpAny (model prog w) A (getItem (.ref t) (.ref sl)) Q E s := by
  have htake : sizeOk (.seq (stp items.toList c).toArray) := by
    show (stp items.toList c).toArray.size ≤ sizeLine
    rw [List.size_toArray]
    have := stp_len items.toList c hc
    rw [Array.length_toList] at this
    exact Nat.le_trans this hsz
  obtain ⟨os, hos, hcs, hds⟩ := id hs
  have hTs : s.TypeIs (.ref sl) "slice" := ⟨os, hos, hcs⟩
  unfold getItem
  try with_reducible refine wpAny_holding ?_
  first | refine wpAny_bind (wpAny_pure ?_) | skip
  refine wpAny_bind (wpAny_sequenceKey ht.typeIs (by decide) ?_)
  refine wpAny_bind (wpAny_callSpecial?_slot (name := Str.ofString "__getitem__") ht.typeIs PyProof.Rows.slot_tuple_getitem
    (wpAny_call_entry PyProof.Rows.slot_tuple_getitem ht.typeIs entry_tuple_getitem ?_ (args_tuple_getitem _ _)))
  show wpAny _ _ (Builtin.Tuple.tupleItemsOf (.ref t) >>= _) _ _ s
  refine wpAny_bind (tupleItemsOf_ ht ?_)
  refine wpAny_bind (wpAny_typeOf hTs ?_)
  rw [if_pos (by decide)]
  refine wpAny_bind (sliceApplied_step hs pc hc ?_)
  show wpAny _ _ (if (stpLo c items.size == 0 && c == 1 && stpN c items.size == items.size) = true then _ else _) _ _ s
  by_cases e1 : c = 1
  · subst e1
    have hyes : (stpLo 1 items.size == 0 && (1 : Int) == 1 && stpN 1 items.size == items.size) = true := by
      have a1 : stpLo 1 items.size = 0 := rfl
      have a2 : stpN 1 items.size = items.size := by
        unfold stpN
        simp only [show (1 : Int) > 0 by decide, if_true]
        split
        · have : ((items.size : Int) - 0 - 1) / 1 = (items.size : Int) - 1 := by rw [Int.ediv_one]; omega
          omega
        · omega
      rw [a1, a2]; simp
    rw [if_pos hyes]
    refine wpAny_bind ?_
    show wpAny _ _ (typeOf (.ref t) >>= fun T => pure (T == .type "tuple")) _ _ s
    refine wpAny_bind (wpAny_typeOf ht.typeIs (wpAny_pure ?_))
    first
      | rw [if_pos (by decide)]
      | simp only [beq_self_eq_true, if_true]
    first
      | exact wpAny_bind (wpAny_rule (wpAny_pure ⟨_, rfl, wpAny_pure (h1 rfl)⟩))
      | exact wpAny_bind (wpAny_rule (wpAny_bind (wpAny_pure (wpAny_pure ⟨_, rfl, wpAny_pure (h1 rfl)⟩))))
  · have hno : ¬ ((stpLo c items.size == 0 && c == 1 && stpN c items.size == items.size) = true) := by
      intro q
      rw [Bool.and_eq_true, Bool.and_eq_true] at q
      exact e1 (eq_of_beq q.1.2)
    rw [if_neg hno]
    have e : ((List.range (stpN c items.size)).filterMap fun (k : Nat) => items[(stpLo c items.size + (k : Int) * c).toNat]?).toArray = (stp items.toList c).toArray := by
      unfold stp
      rw [Array.length_toList]
      congr 2
      funext k
      rw [Array.getElem?_toList]
    rw [e]
    first
      | exact wpAny_bind (m := Builtin.Tuple.tupleExact _) (wpAny_newObj_type (wpAny_pure ⟨_, rfl, wpAny_pure (h e1)⟩) htake)
      | exact wpAny_bind (m := Builtin.Tuple.tupleExact _) (wpAny_newObj_type (wpAny_bind (wpAny_pure (wpAny_pure ⟨_, rfl, wpAny_pure (h e1)⟩))) htake)
      | exact wpAny_bind (wpAny_bind (m := Builtin.Tuple.tupleExact _) (wpAny_newObj_type (wpAny_pure (wpAny_pure ⟨_, rfl, wpAny_pure (h e1)⟩)) htake))
      | exact wpAny_bind (wpAny_bind (m := Builtin.Tuple.tupleExact _) (wpAny_newObj_type (wpAny_pure ⟨_, rfl, wpAny_pure (h e1)⟩) htake))
end
theorem stp_vals {xs : List V} {us : List Value} (r : Vals xs us) (c : Int) : Vals (stp xs c) (stp us c) := by
  unfold stp
  rw [r.length]
  generalize stpN c us.length = n
  have : ∀ (l : List Nat), Vals (l.filterMap fun (m : Nat) => xs[(stpLo c us.length + (m : Int) * c).toNat]?) (l.filterMap fun (m : Nat) => us[(stpLo c us.length + (m : Int) * c).toNat]?) := by
    intro l
    induction l with
    | nil => exact .nil
    | cons m l ih =>
      simp only [List.filterMap_cons]
      generalize (stpLo c us.length + (m : Int) * c).toNat = j
      cases e : xs[j]? with
      | none =>
        have : us[j]? = none := by
          rw [List.getElem?_eq_none_iff] at e ⊢
          rw [← r.length]; exact e
        rw [this]; exact ih
      | some x =>
        obtain ⟨u, hu, ru⟩ := r.get e
        rw [hu]
        exact .cons ru ih
  exact this _
/-- t[::c] by values -/
def rStp (K : PySem.W.Frag) : V → V → Hp → VK → Prop := fun x y H Q => ∃ a c xs, x = .ref a ∧ y = .int c ∧ c ≠ 0 ∧ SqT K H a xs ∧ (c = 1 → Q (.ref a) H) ∧ (c ≠ 1 → ∀ p, H p = none → Q (.ref p) (upd H p (.tup (stp xs c))))
def tStp (K : PySem.W.Frag) (te tc : TE) : TE := fun σ H Q => te σ H fun x H1 => tc σ H1 fun y H2 => rStp K x y H2 Q
theorem pe_step {e c : Expr} {te tc : TE} {pos p2 : Pos} (he : PE X e te) (hc : PE X c tc) : PE X (.Subscript e (.Slice none none (some c) p2) pos) (tStp X.K te tc) := by
  refine ⟨fun pins s σ H Q I h => ?_⟩
  refine Subscript_ (thn (he.run pins s σ H _ I h) fun v s1 ⟨x, H1, I1, r1, q1⟩ => ?_)
  refine wpAny_Slice ?_
  rw [evalPart_none]
  refine wpAny_pure ?_
  refine wpAny_pure ?_
  rw [evalPart_some]
  refine thn (hc.run pins s1 σ H1 _ I1 q1) fun vc s3 ⟨y, H3, I3, r3, q3⟩ => ?_
  obtain ⟨a, cc, xs, rfl, rfl, hc0, hx, q1, q2⟩ := q3
  cases r1
  obtain ⟨tkk, rfl⟩ := r3
  have I4 : Inv X pins σ H3 { s3 with heap := s3.heap.push { cls := .type "slice", data := .fields #[.none, .none, .int cc tkk] } } := I3.kept (t' := s3.toks) fun b ob q => Heap.get?_push_of_some _ q
  obtain ⟨its, r, ht, hz⟩ := I4.tuple hx
  show wpAny (model X.prog X.w) X.A (subscriptTail e (.Slice none none (some c) p2) (.ref a) (.ref s3.heap.objs.size)) (EP X pins σ Q) X.xe { s3 with heap := s3.heap.push { cls := .type "slice", data := .fields #[.none, .none, .int cc tkk] } }
  refine tail_any (ops := [.ref a, .ref s3.heap.objs.size]) ht.typeIs PyProof.Rows.slot_tuple_getitem.lookup ?_ (by with_unfolding_all rfl)
  refine getItem_tuple_step ht (Heap.IsSliceOf.new ..) (.int cc tkk) hc0 (fun e1 => ⟨.ref a, H3, I4, rfl, q1 e1⟩) (fun e1 => ?_) (by rw [List.size_toArray, ← r.length]; exact hz)
  refine ⟨.ref _, _, I4.laid (t' := s3.toks) (o := .tup (stp xs cc)) (fun b ob q => Heap.get?_push_of_some _ q) (Nat.le_refl _) ?_, rfl, q2 e1 _ (I4.hok.fresh (Nat.le_refl _))⟩
  refine ⟨?_, _, stp_vals r cc, IsTup.new _ _⟩
  have := stp_len xs cc hc0
  have hl := r.length
  omega
end
end
end UL
set_option Elab.async false
set_option linter.all false
set_option autoImplicit false
set_option maxRecDepth 100000
set_option maxHeartbeats 4000000
/-! UL2: readings over the abstract heap; operators by values. -/
namespace UL
open PySem PySem.Spec L2

abbrev UK := U → UH → Prop
abbrev UT := USt → UH → UK → Prop
abbrev UTT := USt → UH → (Bool → UH → Prop) → Prop
abbrev UTA := USt → UH → (List U → UH → Prop) → Prop
def cE (K : PySem.W.Frag) (t : UT) : TE := fun σ H Q => ∃ s G Q0, SR K H s σ ∧ HR K G H ∧ t s G Q0 ∧ ∀ u G' v H', Q0 u G' → RU K H' u v → HR K G' H' → Ext H H' → Q v H'
def cT (K : PySem.W.Frag) (t : UTT) : TT := fun σ H Q => ∃ s G Q0, SR K H s σ ∧ HR K G H ∧ t s G Q0 ∧ ∀ b G' H', Q0 b G' → HR K G' H' → Ext H H' → Q b H'
def cA (K : PySem.W.Frag) (t : UTA) : TA := fun σ H Q => ∃ s G Q0, SR K H s σ ∧ HR K G H ∧ t s G Q0 ∧ ∀ us G' vs H', Q0 us G' → RUs K H' us vs → HR K G' H' → Ext H H' → Q vs H'
abbrev UOp := U → U → UH → UK → Prop
abbrev UFn := List U → UH → UK → Prop
def c2 (K : PySem.W.Frag) (r : UOp) : R2 := fun x y H Q => ∃ u w G Q0, RU K H u x ∧ RU K H w y ∧ HR K G H ∧ r u w G Q0 ∧ ∀ z G' v H', Q0 z G' → RU K H' z v → HR K G' H' → Ext H H' → Q v H'
def cF (K : PySem.W.Frag) (r : UFn) : List V → Hp → VK → Prop := fun xs H Q => ∃ us G Q0, RUs K H us xs ∧ HR K G H ∧ r us G Q0 ∧ ∀ z G' v H', Q0 z G' → RU K H' z v → HR K G' H' → Ext H H' → Q v H'
def cM (K : PySem.W.Frag) (r : U → UFn) : V → List V → Hp → VK → Prop := fun x xs H Q => ∃ u us G Q0, RU K H u x ∧ RUs K H us xs ∧ HR K G H ∧ r u us G Q0 ∧ ∀ z G' v H', Q0 z G' → RU K H' z v → HR K G' H' → Ext H H' → Q v H'

section
variable {X : Cx}
theorem PE.weak {e : Expr} {t t' : TE} (h : PE X e t) (w : ∀ σ H Q, t' σ H Q → t σ H Q) : PE X e t' := ⟨fun pins s σ H Q I q => h.run pins s σ H Q I (w σ H Q q)⟩
theorem PT.weak {e : Expr} {t t' : TT} (h : PT X e t) (w : ∀ σ H Q, t' σ H Q → t σ H Q) : PT X e t' := ⟨fun pins s σ H Q I q => h.run pins s σ H Q I (w σ H Q q)⟩
theorem PA.weak {e : List Expr} {t t' : TA} (h : PA X e t) (w : ∀ σ H Q, t' σ H Q → t σ H Q) : PA X e t' := ⟨fun pos pins s σ H Q I q => h.run pos pins s σ H Q I (w σ H Q q)⟩
theorem PS.weak {e : Stmt} {t t' : TS} (h : PS X e t) (w : ∀ D σ H, t' D σ H → t D σ H) : PS X e t' := ⟨fun pins s σ H D I q => h.run pins s σ H D I (w D σ H q)⟩
theorem PSs.weak {e : List Stmt} {t t' : TS} (h : PSs X e t) (w : ∀ D σ H, t' D σ H → t D σ H) : PSs X e t' := ⟨fun pins s σ H D I q => h.run pins s σ H D I (w D σ H q)⟩

/-! ### expressions put together -/
def uBin (r : UOp) (ta tb : UT) : UT := fun s G Q => ta s G fun x G1 => tb s G1 fun y G2 => r x y G2 Q
theorem cOp {K : PySem.W.Frag} {r : UOp} {ta tb : UT} {σ : L2.St} {H : Hp} {Q : VK} (h : cE K (uBin r ta tb) σ H Q) : tOp (c2 K r) (cE K ta) (cE K tb) σ H Q := by
  obtain ⟨s, G, Q0, hs, hg, h, k⟩ := h
  refine ⟨s, G, _, hs, hg, h, fun x G1 v H1 h1 r1 g1 e1 => ⟨s, G1, _, hs.ext e1, g1, h1, fun y G2 v2 H2 h2 r2 g2 e2 => ?_⟩⟩
  exact ⟨x, y, G2, Q0, RU.ext e2 r1, r2, g2, h2, fun z G3 v3 H3 h3 r3 g3 e3 => k z G3 v3 H3 h3 r3 g3 ((e1.trans e2).trans e3)⟩
def uUn (r : U → UH → UK → Prop) (ta : UT) : UT := fun s G Q => ta s G fun x G1 => r x G1 Q
def c1 (K : PySem.W.Frag) (r : U → UH → UK → Prop) : V → Hp → VK → Prop := fun x H Q => ∃ u G Q0, RU K H u x ∧ HR K G H ∧ r u G Q0 ∧ ∀ z G' v H', Q0 z G' → RU K H' z v → HR K G' H' → Ext H H' → Q v H'
theorem cUn {K : PySem.W.Frag} {r : U → UH → UK → Prop} {ta : UT} {σ : L2.St} {H : Hp} {Q : VK} (h : cE K (uUn r ta) σ H Q) : tUn (c1 K r) (cE K ta) σ H Q := by
  obtain ⟨s, G, Q0, hs, hg, h, k⟩ := h
  refine ⟨s, G, _, hs, hg, h, fun x G1 v H1 h1 r1 g1 e1 => ?_⟩
  exact ⟨x, G1, Q0, r1, g1, h1, fun z G3 v3 H3 h3 r3 g3 e3 => k z G3 v3 H3 h3 r3 g3 (e1.trans e3)⟩
/-- a value without more ado -/
def uC (u : U) : UT := fun _ G Q => Q u G
theorem cC {K : PySem.W.Frag} {u : U} {v : V} (r : ∀ H, RU K H u v) {σ : L2.St} {H : Hp} {Q : VK} (h : cE K (uC u) σ H Q) : tC v σ H Q := by
  obtain ⟨s, G, Q0, hs, hg, h, k⟩ := h
  exact k u G v H h (r H) hg .refl
def getS : USt → Nat → Option U
  | [], _ => none
  | o :: _, 0 => o
  | _ :: s, i + 1 => getS s i
def setS : USt → Nat → Option U → USt
  | [], _, _ => []
  | _ :: s, 0, v => v :: s
  | o :: s, i + 1, v => o :: setS s i v
theorem getS_some : ∀ {s : USt} {i : Nat} {u : U}, getS s i = some u → s[i]? = some (some u)
  | [], _, _, h => by cases h
  | o :: _, 0, u, h => by simp [getS] at h; simp [h]
  | _ :: s, i + 1, u, h => by simp [getS] at h; simpa using getS_some h
theorem setS_eq : ∀ (s : USt) (i : Nat) (v : Option U), setS s i v = s.set i v
  | [], _, _ => rfl
  | _ :: _, 0, _ => rfl
  | o :: s, i + 1, v => by simp [setS, setS_eq s i v]
def uVar (i : Nat) : UT := fun s G Q => match getS s i with
  | some u => Q u G
  | none => False
theorem cVar {K : PySem.W.Frag} {i : Nat} {σ : L2.St} {H : Hp} {Q : VK} (h : cE K (uVar i) σ H Q) : tVar i σ H Q := by
  obtain ⟨s, G, Q0, hs, hg, h, k⟩ := h
  unfold uVar at h
  cases e : getS s i with
  | none => rw [e] at h; exact h.elim
  | some u =>
    rw [e] at h
    obtain ⟨v, e1, r⟩ := hs.at_ i u (getS_some e)
    exact ⟨v, e1, k u G v H h r hg .refl⟩

/-! ### numbers, texts, tuples, lists -/
def MulOk (i j : Int) : Prop := CMul i j ∨ CMulX i j
def DivOk (i j : Int) : Prop := CDiv i j ∨ CDivW i j
def uAdd : UOp := fun x y G Q => match x, y with
  | .int i, .int j => Q (.int (i + j)) G
  | .str a, .str b => a.length + b.length ≤ sizeLine ∧ Q (.str (a ++ b)) G
  | .tup a, .tup b => a.length + b.length ≤ sizeLine ∧ Q (.tup (a ++ b)) G
  | .ref a, .ref b => (match G a, G b with
    | some (.lst xs), some (.lst ys) => xs.length + ys.length ≤ sizeLine ∧ ∀ p, G p = none → Q (.ref p) (up G p (.lst (xs ++ ys)))
    | _, _ => False)
  | _, _ => False
def uSub : UOp := fun x y G Q => match x, y with
  | .int i, .int j => Q (.int (i - j)) G
  | _, _ => False
def uMul : UOp := fun x y G Q => match x, y with
  | .int i, .int j => MulOk i j ∧ Q (.int (i * j)) G
  | .ref a, .int k => (match G a with
    | some (.lst xs) => -(2 ^ 63) ≤ k ∧ k < 2 ^ 63 ∧ xs.length * k.toNat ≤ sizeLine ∧ ∀ p, G p = none → Q (.ref p) (up G p (.lst (List.replicate k.toNat xs).flatten))
    | _ => False)
  | .tup xs, .int k => xs ≠ [] ∧ 0 ≤ k ∧ k ≤ 1000 ∧ xs.length ≤ 1000 ∧ Q (.tup (List.replicate k.toNat xs).flatten) G
  | _, _ => False
def uDiv : UOp := fun x y G Q => match x, y with
  | .int i, .int j => DivOk i j ∧ Q (.int (i / j)) G
  | _, _ => False
def uMod : UOp := fun x y G Q => match x, y with
  | .int i, .int j => 0 < j ∧ Q (.int (i % j)) G
  | _, _ => False
def uPow : UOp := fun x y G Q => match x, y with
  | .int i, .int j => CPow i j ∧ Q (.int (i ^ j.toNat)) G
  | _, _ => False
theorem RU.tup_inv {K : PySem.W.Frag} {H : Hp} {us : List U} {v : V} (h : RU K H (.tup us) v) : ∃ a xs, v = .ref a ∧ SqT K H a xs ∧ RUs K H us xs := by
  cases h with
  | tup h r => exact ⟨_, _, rfl, h, r⟩
theorem RU.rol_inv {K : PySem.W.Frag} {H : Hp} {us : List U} {v : V} (h : RU K H (.rol us) v) : ∃ a xs, v = .ref a ∧ Frz K H a xs ∧ RUs K H us xs := by
  cases h with
  | rol h r => exact ⟨_, _, rfl, h, r⟩
theorem op_uAdd : OpR X (binaryOp .Add) (c2 X.K uAdd) := by
  intro pins s σ H x y v u Q I rx ry h
  obtain ⟨a, b, G, Q0, ra, rb, hg, h, k⟩ := h
  unfold uAdd at h
  split at h
  · cases ra; cases rb
    exact op_add pins s σ H _ _ v u Q I rx ry ⟨_, _, rfl, rfl, k _ G _ H h (.int _) hg .refl⟩
  · cases ra; cases rb
    exact op_add_str pins s σ H _ _ v u Q I rx ry ⟨_, _, rfl, rfl, h.1, k _ G _ H h.2 (.str _) hg .refl⟩
  · obtain ⟨p, xs, rfl, h1, r1⟩ := ra.tup_inv
    obtain ⟨q, ys, rfl, h2, r2⟩ := rb.tup_inv
    refine op_catA pins s σ H _ _ v u Q I rx ry ⟨p, q, xs, ys, rfl, rfl, h1, h2, by rw [← r1.length, ← r2.length]; exact h.1, fun e => ?_, fun _ e => ?_, fun _ _ l hl => ?_⟩
    · subst e; cases r1
      exact k _ G _ H h.2 (.tup h2 (by simpa using r2)) hg .refl
    · subst e; cases r2
      exact k _ G _ H h.2 (.tup h1 (by simpa using r1)) hg .refl
    · obtain ⟨e, g, r⟩ := hg.newTup hl (r1.append r2)
      exact k _ G _ _ h.2 r g e
  · rename_i a b
    cases ra; cases rb
    split at h
    · rename_i us ws e1 e2
      obtain ⟨xs, h1, r1⟩ := hg.lst e1
      obtain ⟨ys, h2, r2⟩ := hg.lst e2
      refine op_cat pins s σ H _ _ v u Q I rx ry ⟨a, b, xs, ys, rfl, rfl, h1, h2, by rw [← r1.length, ← r2.length]; exact h.1, fun p hp => ?_⟩
      obtain ⟨e, g⟩ := hg.newLst hp (r1.append r2)
      exact k _ _ _ _ (h.2 p (hg.fresh hp)) (.ref p) g e
    · exact h.elim
  · exact h.elim
theorem op_uSub : OpR X (binaryOp .Sub) (c2 X.K uSub) := by
  intro pins s σ H x y v u Q I rx ry h
  obtain ⟨a, b, G, Q0, ra, rb, hg, h, k⟩ := h
  unfold uSub at h
  split at h
  · cases ra; cases rb
    exact op_sub pins s σ H _ _ v u Q I rx ry ⟨_, _, rfl, rfl, k _ G _ H h (.int _) hg .refl⟩
  · exact h.elim
theorem op_uMul : OpR X (binaryOp .Mult) (c2 X.K uMul) := by
  intro pins s σ H x y v u Q I rx ry h
  obtain ⟨a, b, G, Q0, ra, rb, hg, h, k⟩ := h
  unfold uMul at h
  split at h
  · cases ra; cases rb
    have q := k _ G _ H h.2 (.int _) hg .refl
    rcases h.1 with m | m
    · exact op_mul pins s σ H _ _ v u Q I rx ry ⟨_, _, rfl, rfl, m, q⟩
    · exact op_mulX pins s σ H _ _ v u Q I rx ry ⟨_, _, rfl, rfl, m, q⟩
  · rename_i a kk
    cases ra; cases rb
    split at h
    · rename_i us e1
      obtain ⟨xs, h1, r1⟩ := hg.lst e1
      obtain ⟨b1, b2, b3, h⟩ := h
      refine op_rep pins s σ H _ _ v u Q I rx ry ⟨a, kk, xs, rfl, rfl, h1, b1, b2, by rw [← r1.length]; exact b3, fun p hp => ?_⟩
      obtain ⟨e, g⟩ := hg.newLst hp (RUs.reps r1 kk.toNat)
      exact k _ _ _ _ (h p (hg.fresh hp)) (.ref p) g e
    · exact h.elim
  · rename_i us kk
    obtain ⟨p, xs, rfl, h1, r1⟩ := ra.tup_inv
    cases rb
    obtain ⟨n0, b1, b2, b3, h⟩ := h
    have nx : xs ≠ [] := fun z => n0 (by subst z; cases r1; rfl)
    by_cases k2 : 2 ≤ kk
    · refine op_repT pins s σ H _ _ v u Q I rx ry ⟨p, kk, xs, rfl, rfl, h1, nx, k2, b2, by rw [← r1.length]; exact b3, fun l hl => ?_⟩
      obtain ⟨e, g, r⟩ := hg.newTup hl (RUs.reps r1 kk.toNat)
      exact k _ G _ _ h r g e
    · by_cases k1 : kk = 1
      · subst k1
        refine op_rep01 pins s σ H _ _ v u Q I rx ry ⟨p, 1, xs, rfl, rfl, h1, nx, .inr ⟨rfl, ?_⟩⟩
        exact k _ G _ H h (by
          have e : (List.replicate (1 : Int).toNat us).flatten = us := by
            show (List.replicate 1 us).flatten = us
            simp
          rw [e]; exact ra) hg .refl
      · have k0 : kk = 0 := by omega
        subst k0
        refine op_rep01 pins s σ H _ _ v u Q I rx ry ⟨p, 0, xs, rfl, rfl, h1, nx, .inl ⟨rfl, fun l hl => ?_⟩⟩
        obtain ⟨e, g, r⟩ := hg.newTup hl (ws := []) (ys := []) .nil
        exact k _ G _ _ h r g e
  · exact h.elim
theorem op_uDiv : OpR X (binaryOp .FloorDiv) (c2 X.K uDiv) := by
  intro pins s σ H x y v u Q I rx ry h
  obtain ⟨a, b, G, Q0, ra, rb, hg, h, k⟩ := h
  unfold uDiv at h
  split at h
  · cases ra; cases rb
    have q := k _ G _ H h.2 (.int _) hg .refl
    rcases h.1 with m | m
    · exact op_fdiv pins s σ H _ _ v u Q I rx ry ⟨_, _, rfl, rfl, m, q⟩
    · exact op_fdivW pins s σ H _ _ v u Q I rx ry ⟨_, _, rfl, rfl, m, q⟩
  · exact h.elim
theorem op_uMod : OpR X (binaryOp .Mod) (c2 X.K uMod) := by
  intro pins s σ H x y v u Q I rx ry h
  obtain ⟨a, b, G, Q0, ra, rb, hg, h, k⟩ := h
  unfold uMod at h
  split at h
  · cases ra; cases rb
    exact op_mod pins s σ H _ _ v u Q I rx ry ⟨_, _, rfl, rfl, h.1, k _ G _ H h.2 (.int _) hg .refl⟩
  · exact h.elim
theorem op_uPow : OpR X (binaryOp .Pow) (c2 X.K uPow) := by
  intro pins s σ H x y v u Q I rx ry h
  obtain ⟨a, b, G, Q0, ra, rb, hg, h, k⟩ := h
  unfold uPow at h
  split at h
  · cases ra; cases rb
    exact op_pow pins s σ H _ _ v u Q I rx ry ⟨_, _, rfl, rfl, h.1, k _ G _ H h.2 (.int _) hg .refl⟩
  · exact h.elim
def uNeg : U → UH → UK → Prop := fun x G Q => match x with
  | .int i => Q (.int (-i)) G
  | _ => False
theorem un_uNeg : UnR X (unaryOp .USub) (c1 X.K uNeg) := by
  intro pins s σ H x v Q I rx h
  obtain ⟨a, G, Q0, ra, hg, h, k⟩ := h
  unfold uNeg at h
  split at h
  · cases ra
    exact un_neg pins s σ H _ v Q I rx ⟨_, rfl, k _ G _ H h (.int _) hg .refl⟩
  · exact h.elim
def uOp : Operator → UOp
  | .Add => uAdd
  | .Sub => uSub
  | .Mult => uMul
  | .FloorDiv => uDiv
  | .Mod => uMod
  | .Pow => uPow
  | _ => fun _ _ _ _ => False
theorem op_any (op : Operator) : OpR X (binaryOp op) (c2 X.K (uOp op)) := by
  cases op with
  | Add => exact op_uAdd
  | Sub => exact op_uSub
  | Mult => exact op_uMul
  | FloorDiv => exact op_uDiv
  | Mod => exact op_uMod
  | Pow => exact op_uPow
  | _ =>
    intro pins s σ H x y v u Q I rx ry h
    obtain ⟨a, b, G, Q0, ra, rb, hg, h, k⟩ := h
    exact h.elim

/-! ### comparisons -/
mutual
def toD : U → Option PyData
  | .non => some .none
  | .bl b => some (.bool b)
  | .int i => some (.int i)
  | .str x => some (.str x)
  | .tup us => (toDs us).map .tuple
  | .rol us => (toDs us).map .list
  | .ref _ => none
  | .ty _ => none
def toDs : List U → Option (List PyData)
  | [] => some []
  | u :: us => (toD u).bind fun d => (toDs us).map fun ds => d :: ds
end
mutual
theorem dp_of {K : PySem.W.Frag} {H : Hp} : ∀ {u : U} {v : V} {d : PyData}, RU K H u v → toD u = some d → Dp K H v d
  | .non, _, _, .non, h => by simp [toD] at h; subst h; exact .non
  | .bl b, _, _, .bl _, h => by simp [toD] at h; subst h; exact .bl b
  | .int i, _, _, .int _, h => by simp [toD] at h; subst h; exact .int i
  | .str x, _, _, .str _, h => by simp [toD] at h; subst h; exact .str x
  | .tup us, _, _, .tup hq r, h => by
    simp only [toD, Option.map_eq_some_iff] at h
    obtain ⟨ds, h1, h2⟩ := h
    subst h2
    exact .tup hq (dps_of r h1)
  | .rol us, _, _, .rol hq r, h => by
    simp only [toD, Option.map_eq_some_iff] at h
    obtain ⟨ds, h1, h2⟩ := h
    subst h2
    exact .lst hq.sq (dps_of r h1)
  | .ref _, _, _, .ref _, h => by simp [toD] at h
  | .ty _, _, _, .ty _, h => by simp [toD] at h
theorem dps_of {K : PySem.W.Frag} {H : Hp} : ∀ {us : List U} {vs : List V} {ds : List PyData}, RUs K H us vs → toDs us = some ds → DpAll K H vs ds
  | [], _, _, .nil, h => by simp [toDs] at h; subst h; exact .nil
  | u :: us, _, _, .cons r t, h => by
    simp only [toDs, Option.bind_eq_some_iff, Option.map_eq_some_iff] at h
    obtain ⟨d, h1, ds, h2, h3⟩ := h
    subst h3
    exact .cons (dp_of r h1) (dps_of t h2)
end
/-- what is compared: a list at its place, its items by value -/
def dOf (G : UH) : U → Option PyData
  | .ref a => (match G a with
    | some (.lst us) => (toDs us).map .list
    | _ => none)
  | u => toD u
theorem dp_ofG {K : PySem.W.Frag} {H : Hp} {G : UH} (hg : HR K G H) {u : U} {v : V} {d : PyData} (r : RU K H u v) (h : dOf G u = some d) : Dp K H v d := by
  cases r with
  | ref a =>
    unfold dOf at h
    simp only at h
    split at h
    · rename_i us e
      obtain ⟨xs, h1, r1⟩ := hg.lst e
      simp only [Option.map_eq_some_iff] at h
      obtain ⟨ds, h2, h3⟩ := h
      subst h3
      exact .lst (SqL.of h1) (dps_of r1 h2)
    · cases h
  | non => exact dp_of .non h
  | bl b => exact dp_of (.bl b) h
  | int i => exact dp_of (.int i) h
  | str x => exact dp_of (.str x) h
  | tup hq r => exact dp_of (.tup hq r) h
  | rol hq r => exact dp_of (.rol hq r) h
  | ty n => exact dp_of (.ty n) h
def uEqF (neg : Bool) : UOp := fun x y G Q => match x, y with
  | .int i, .int j => Q (.bl (neg ^^ decide (i = j))) G
  | .str a, .str b => Q (.bl (neg ^^ decide (a = b))) G
  | .bl a, .bl b => Q (.bl (neg ^^ decide (a = b))) G
  | .non, .non => Q (.bl (neg ^^ true)) G
  | x, y => (match dOf G x, dOf G y with
    | some d, some e => SeqAt.shaped d = true ∧ SeqAt.shaped e = true ∧ Q (.bl (neg ^^ PyData.eqv d e)) G
    | _, _ => False)
theorem op_uEq (hu : X.A.units + 64 < cLine) : OpR X (compareOp .Eq) (c2 X.K (uEqF false)) := by
  intro pins s σ H x y v u Q I rx ry h
  obtain ⟨a, b, G, Q0, ra, rb, hg, h, k⟩ := h
  unfold uEqF at h
  split at h
  · cases ra; cases rb
    exact op_eq pins s σ H _ _ v u Q I rx ry ⟨rfl, by have q := k _ G _ H h (.bl _) hg .refl; simpa using q⟩
  · cases ra; cases rb
    exact op_eq pins s σ H _ _ v u Q I rx ry ⟨rfl, by have q := k _ G _ H h (.bl _) hg .refl; simpa using q⟩
  · cases ra; cases rb
    exact op_eq pins s σ H _ _ v u Q I rx ry ⟨rfl, by have q := k _ G _ H h (.bl _) hg .refl; simpa using q⟩
  · cases ra; cases rb
    exact op_eqD hu pins s σ H _ _ v u Q I rx ry ⟨.none, .none, .non, .non, by decide, by decide, by have q := k _ G _ H h (.bl _) hg .refl; simpa [PyData.eqv] using q⟩
  · split at h
    · rename_i d e h1 h2
      exact op_eqD hu pins s σ H _ _ v u Q I rx ry ⟨d, e, dp_ofG hg ra h1, dp_ofG hg rb h2, h.1, h.2.1, by have q := k _ G _ H h.2.2 (.bl _) hg .refl; simpa using q⟩
    · exact h.elim
theorem op_uNe (hu : X.A.units + 64 < cLine) : OpR X (compareOp .NotEq) (c2 X.K (uEqF true)) := by
  intro pins s σ H x y v u Q I rx ry h
  obtain ⟨a, b, G, Q0, ra, rb, hg, h, k⟩ := h
  unfold uEqF at h
  split at h
  · cases ra; cases rb
    exact op_ne pins s σ H _ _ v u Q I rx ry ⟨rfl, by have q := k _ G _ H h (.bl _) hg .refl; simpa using q⟩
  · cases ra; cases rb
    exact op_ne pins s σ H _ _ v u Q I rx ry ⟨rfl, by have q := k _ G _ H h (.bl _) hg .refl; simpa using q⟩
  · cases ra; cases rb
    exact op_ne pins s σ H _ _ v u Q I rx ry ⟨rfl, by have q := k _ G _ H h (.bl _) hg .refl; simpa using q⟩
  · cases ra; cases rb
    exact op_neD hu pins s σ H _ _ v u Q I rx ry ⟨.none, .none, .non, .non, by decide, by decide, by have q := k _ G _ H h (.bl _) hg .refl; simpa [PyData.eqv] using q⟩
  · split at h
    · rename_i d e h1 h2
      exact op_neD hu pins s σ H _ _ v u Q I rx ry ⟨d, e, dp_ofG hg ra h1, dp_ofG hg rb h2, h.1, h.2.1, by have q := k _ G _ H h.2.2 (.bl _) hg .refl; simpa using q⟩
    · exact h.elim
end
/-! ### [::c] -/
def uStp : UOp := fun x y G Q => match x, y with
  | .tup us, .int c => c ≠ 0 ∧ Q (.tup (stp us c)) G
  | _, _ => False
theorem RUs.stp {K : PySem.W.Frag} {H : Hp} {us : List U} {vs : List V} (r : RUs K H us vs) (c : Int) : RUs K H (stp us c) (stp vs c) := by
  unfold UL.stp
  rw [r.length]
  generalize stpN c vs.length = n
  have : ∀ (l : List Nat), RUs K H (l.filterMap fun (m : Nat) => us[(stpLo c vs.length + (m : Int) * c).toNat]?) (l.filterMap fun (m : Nat) => vs[(stpLo c vs.length + (m : Int) * c).toNat]?) := by
    intro l
    induction l with
    | nil => exact .nil
    | cons m l ih =>
      simp only [List.filterMap_cons]
      generalize (stpLo c vs.length + (m : Int) * c).toNat = j
      cases e : us[j]? with
      | none =>
        have : vs[j]? = none := by
          rw [List.getElem?_eq_none_iff] at e ⊢
          rw [← r.length]; exact e
        rw [this]; exact ih
      | some x =>
        obtain ⟨u, hu, ru⟩ := r.get e
        rw [hu]
        exact .cons ru ih
  exact this _
theorem cStp {K : PySem.W.Frag} {ta tb : UT} {σ : L2.St} {H : Hp} {Q : VK} (h : cE K (uBin uStp ta tb) σ H Q) : tStp K (cE K ta) (cE K tb) σ H Q := by
  obtain ⟨s, G, Q0, hs, hg, h, k⟩ := h
  refine ⟨s, G, _, hs, hg, h, fun x G1 v H1 h1 r1 g1 e1 => ⟨s, G1, _, hs.ext e1, g1, h1, fun y G2 v2 H2 h2 r2 g2 e2 => ?_⟩⟩
  have rx := RU.ext e2 r1
  unfold uStp at h2
  split at h2
  · obtain ⟨p, xs, rfl, hx, r3⟩ := rx.tup_inv
    cases r2
    refine ⟨p, _, xs, rfl, rfl, h2.1, hx, fun e => ?_, fun _ l hl => ?_⟩
    · subst e
      refine k _ G2 _ H2 h2.2 ?_ g2 (e1.trans e2)
      rw [stp_one]; exact rx
    · obtain ⟨e, g, r⟩ := g2.newTup hl (r3.stp _)
      exact k _ G2 _ _ h2.2 r g ((e1.trans e2).trans e)
  · exact h2.elim
end UL
set_option Elab.async false
set_option linter.all false
set_option autoImplicit false
set_option maxRecDepth 100000
set_option maxHeartbeats 4000000
/-! UL3: further operators, built-in functions, subscripts, methods by values. -/
namespace UL
open PySem PySem.Spec L2
section
variable {X : Cx}
/-! ### order -/
def uLt : UOp := fun x y G Q => match x, y with
  | .int i, .int j => Q (.bl (decide (i < j))) G
  | .str i, .str j => Q (.bl (decide (i.cps.toList < j.cps.toList))) G
  | _, _ => False
def uLe : UOp := fun x y G Q => match x, y with
  | .int i, .int j => Q (.bl (decide (i ≤ j))) G
  | .str i, .str j => Q (.bl (!decide (j.cps.toList < i.cps.toList))) G
  | _, _ => False
def uGt : UOp := fun x y G Q => match x, y with
  | .int i, .int j => Q (.bl (decide (j < i))) G
  | .str i, .str j => Q (.bl (decide (j.cps.toList < i.cps.toList))) G
  | _, _ => False
def uGe : UOp := fun x y G Q => match x, y with
  | .int i, .int j => Q (.bl (decide (j ≤ i))) G
  | .str i, .str j => Q (.bl (!decide (i.cps.toList < j.cps.toList))) G
  | _, _ => False
theorem op_uLt : OpR X (compareOp .Lt) (c2 X.K uLt) := by
  intro pins s σ H x y v u Q I rx ry h
  obtain ⟨a, b, G, Q0, ra, rb, hg, h, k⟩ := h
  unfold uLt at h
  split at h
  · cases ra; cases rb
    exact op_lt pins s σ H _ _ v u Q I rx ry ⟨_, _, rfl, rfl, k _ G _ H h (.bl _) hg .refl⟩
  · cases ra; cases rb
    exact op_lt_str pins s σ H _ _ v u Q I rx ry ⟨_, _, rfl, rfl, k _ G _ H h (.bl _) hg .refl⟩
  · exact h.elim
theorem op_uLe : OpR X (compareOp .LtE) (c2 X.K uLe) := by
  intro pins s σ H x y v u Q I rx ry h
  obtain ⟨a, b, G, Q0, ra, rb, hg, h, k⟩ := h
  unfold uLe at h
  split at h
  · cases ra; cases rb
    exact op_le pins s σ H _ _ v u Q I rx ry ⟨_, _, rfl, rfl, k _ G _ H h (.bl _) hg .refl⟩
  · cases ra; cases rb
    exact op_le_str pins s σ H _ _ v u Q I rx ry ⟨_, _, rfl, rfl, k _ G _ H h (.bl _) hg .refl⟩
  · exact h.elim
theorem op_uGt : OpR X (compareOp .Gt) (c2 X.K uGt) := by
  intro pins s σ H x y v u Q I rx ry h
  obtain ⟨a, b, G, Q0, ra, rb, hg, h, k⟩ := h
  unfold uGt at h
  split at h
  · cases ra; cases rb
    exact op_gt pins s σ H _ _ v u Q I rx ry ⟨_, _, rfl, rfl, k _ G _ H h (.bl _) hg .refl⟩
  · cases ra; cases rb
    exact op_gt_str pins s σ H _ _ v u Q I rx ry ⟨_, _, rfl, rfl, k _ G _ H h (.bl _) hg .refl⟩
  · exact h.elim
theorem op_uGe : OpR X (compareOp .GtE) (c2 X.K uGe) := by
  intro pins s σ H x y v u Q I rx ry h
  obtain ⟨a, b, G, Q0, ra, rb, hg, h, k⟩ := h
  unfold uGe at h
  split at h
  · cases ra; cases rb
    exact op_ge pins s σ H _ _ v u Q I rx ry ⟨_, _, rfl, rfl, k _ G _ H h (.bl _) hg .refl⟩
  · cases ra; cases rb
    exact op_ge_str pins s σ H _ _ v u Q I rx ry ⟨_, _, rfl, rfl, k _ G _ H h (.bl _) hg .refl⟩
  · exact h.elim

/-! ### in -/
def flatU : U → Bool
  | .non => true
  | .bl _ => true
  | .int _ => true
  | .str _ => true
  | _ => false
def eqU : U → U → Bool
  | .non, .non => true
  | .bl a, .bl b => a == b
  | .bl a, .int b => (if a then 1 else 0) == b
  | .int a, .bl b => a == (if b then 1 else 0)
  | .int a, .int b => a == b
  | .str a, .str b => a == b
  | _, _ => false
def inU (x : U) (xs : List U) : Bool := xs.any fun y => eqU y x
theorem flat_of {K : PySem.W.Frag} {H : Hp} {u : U} {v : V} (r : RU K H u v) (h : flatU u = true) : flatV v = true := by
  cases r <;> first | rfl | cases h
theorem flats_of {K : PySem.W.Frag} {H : Hp} : ∀ {us : List U} {vs : List V}, RUs K H us vs → us.all flatU = true → vs.all flatV = true
  | _, _, .nil, _ => rfl
  | _, _, .cons r t, h => by
    simp only [List.all_cons, Bool.and_eq_true] at h ⊢
    exact ⟨flat_of r h.1, flats_of t h.2⟩
theorem eqU_of' {K : PySem.W.Frag} {H : Hp} {u w : U} {v x : V} (r : RU K H u v) (q : RU K H w x) (h1 : flatU u = true) (h2 : flatU w = true) : eqV v x = eqU u w := by
  cases r <;> first
    | (cases q <;> first | rfl | cases h2)
    | cases h1
theorem inU_of {K : PySem.W.Frag} {H : Hp} {w : U} {x : V} (q : RU K H w x) (h2 : flatU w = true) : ∀ {us : List U} {vs : List V}, RUs K H us vs → us.all flatU = true → inV x vs = inU w us
  | _, _, .nil, _ => rfl
  | _, _, .cons r t, h => by
    simp only [List.all_cons, Bool.and_eq_true] at h
    have ih := inU_of q h2 t h.2
    unfold inV inU at *
    simp only [List.any_cons]
    rw [eqU_of' r q h.1 h2, ih]
def keyOf : U → Option Key
  | .int i => some (.inl i)
  | .str x => some (.inr x)
  | _ => none
theorem key_rel {K : PySem.W.Frag} {H : Hp} {u : U} {v : V} {k : Key} (r : RU K H u v) (h : keyOf u = some k) : v = kV k := by
  cases r <;> first
    | (simp [keyOf] at h; subst h; rfl)
    | (simp [keyOf] at h)
def lookK (kvs : List (Key × U)) (k : Key) : Option U := (kvs.find? fun kv => decide (kv.1 = k)).map (·.2)
theorem lookK_rel {K : PySem.W.Frag} {H : Hp} {kvs : List (Key × U)} {xs : List (Key × V)} (r : RKV K H kvs xs) (k : Key) :
    (lookK kvs k = none ∧ valV xs k = none) ∨ ∃ u v, lookK kvs k = some u ∧ valV xs k = some v ∧ RU K H u v := by
  unfold RKV at r
  induction r with
  | nil => exact .inl ⟨rfl, rfl⟩
  | @cons p q ps qs h _ ih =>
    by_cases e : p.1 = k
    · refine .inr ⟨p.2, q.2, ?_, ?_, h.2⟩
      · simp [lookK, List.find?_cons, e]
      · simp [valV, List.find?_cons, ← h.1, e]
    · rcases ih with ⟨h1, h2⟩ | ⟨u, v, h1, h2, h3⟩
      · refine .inl ⟨?_, ?_⟩
        · simpa [lookK, List.find?_cons, e] using h1
        · simpa [valV, List.find?_cons, ← h.1, e] using h2
      · refine .inr ⟨u, v, ?_, ?_, h3⟩
        · simpa [lookK, List.find?_cons, e] using h1
        · simpa [valV, List.find?_cons, ← h.1, e] using h2
def uInF (neg : Bool) : UOp := fun x y G Q => match y with
  | .tup us => flatU x = true ∧ us.all flatU = true ∧ Q (.bl (neg ^^ inU x us)) G
  | .rol us => flatU x = true ∧ us.all flatU = true ∧ Q (.bl (neg ^^ inU x us)) G
  | .ref a => (match G a with
    | some (.lst us) => flatU x = true ∧ us.all flatU = true ∧ Q (.bl (neg ^^ inU x us)) G
    | some (.dK kvs) => (match keyOf x with
      | some k => Q (.bl (neg ^^ (lookK kvs k).isSome)) G
      | none => False)
    | _ => False)
  | .str z => (match x with
    | .str w => w.length = 1 ∧ Q (.bl (neg ^^ decide (w.cps.getD 0 0 ∈ z.cps.toList))) G
    | _ => False)
  | _ => False
theorem str1 {w : Str} (h : w.length = 1) : w = ⟨#[w.cps.getD 0 0]⟩ := by
  obtain ⟨c⟩ := w
  have h' : c.size = 1 := h
  obtain ⟨l⟩ := c
  match l, h' with
  | [x], _ => rfl
theorem op_uIn (hu : X.A.units + 1 < cLine) : OpR X (compareOp .In) (c2 X.K (uInF false)) := by
  intro pins s σ H x y v u Q I rx ry h
  obtain ⟨a, b, G, Q0, ra, rb, hg, h, k⟩ := h
  unfold uInF at h
  simp only [Bool.false_bne] at h
  split at h
  · obtain ⟨p, xs, rfl, h1, r1⟩ := rb.tup_inv
    exact op_in_seq pins s σ H _ _ v u Q I rx ry ⟨p, xs, rfl, .inr h1, flat_of ra h.1, flats_of r1 h.2.1, by simpa [inU_of ra h.1 r1 h.2.1] using k _ G _ H h.2.2 (.bl _) hg .refl⟩
  · obtain ⟨p, xs, rfl, h1, r1⟩ := rb.rol_inv
    exact op_in_seq pins s σ H _ _ v u Q I rx ry ⟨p, xs, rfl, .inl h1.sq, flat_of ra h.1, flats_of r1 h.2.1, by simpa [inU_of ra h.1 r1 h.2.1] using k _ G _ H h.2.2 (.bl _) hg .refl⟩
  · rename_i p
    cases rb
    split at h
    · rename_i us e
      obtain ⟨xs, h1, r1⟩ := hg.lst e
      exact op_in_seq pins s σ H _ _ v u Q I rx ry ⟨p, xs, rfl, .inl (SqL.of h1), flat_of ra h.1, flats_of r1 h.2.1, by simpa [inU_of ra h.1 r1 h.2.1] using k _ G _ H h.2.2 (.bl _) hg .refl⟩
    · rename_i kvs e
      split at h
      · rename_i key ek
        obtain ⟨xs, h1, r1⟩ := hg p _ e
        have hk := key_rel ra ek
        subst hk
        cases (show u = Value.ref p from ry)
        refine d_in hu I (DGet.k (k := key) h1) rx fun s' I' => ⟨.bl (valV xs key).isSome, H, I', rfl, ?_⟩
        rcases lookK_rel r1 key with ⟨e1, e2⟩ | ⟨uu, vv, e1, e2, _⟩
        · rw [e1] at h; rw [e2]; exact k _ G _ H h (.bl _) hg .refl
        · rw [e1] at h; rw [e2]; exact k _ G _ H h (.bl _) hg .refl
      · exact h.elim
    · exact h.elim
  · rename_i z
    cases rb
    split at h
    · rename_i w
      cases ra
      exact op_in_sign pins s σ H _ _ v u Q I rx ry ⟨_, _, congrArg V.str (str1 h.1), rfl, by simpa using k _ G _ H h.2 (.bl _) hg .refl⟩
    · exact h.elim
  · exact h.elim
theorem op_uNotIn (hu : X.A.units + 1 < cLine) : OpR X (compareOp .NotIn) (c2 X.K (uInF true)) := by
  intro pins s σ H x y v u Q I rx ry h
  obtain ⟨a, b, G, Q0, ra, rb, hg, h, k⟩ := h
  unfold uInF at h
  simp only [Bool.true_bne] at h
  split at h
  · obtain ⟨p, xs, rfl, h1, r1⟩ := rb.tup_inv
    exact op_notIn_seq pins s σ H _ _ v u Q I rx ry ⟨p, xs, rfl, .inr h1, flat_of ra h.1, flats_of r1 h.2.1, by simpa [inU_of ra h.1 r1 h.2.1] using k _ G _ H h.2.2 (.bl _) hg .refl⟩
  · obtain ⟨p, xs, rfl, h1, r1⟩ := rb.rol_inv
    exact op_notIn_seq pins s σ H _ _ v u Q I rx ry ⟨p, xs, rfl, .inl h1.sq, flat_of ra h.1, flats_of r1 h.2.1, by simpa [inU_of ra h.1 r1 h.2.1] using k _ G _ H h.2.2 (.bl _) hg .refl⟩
  · rename_i p
    cases rb
    split at h
    · rename_i us e
      obtain ⟨xs, h1, r1⟩ := hg.lst e
      exact op_notIn_seq pins s σ H _ _ v u Q I rx ry ⟨p, xs, rfl, .inl (SqL.of h1), flat_of ra h.1, flats_of r1 h.2.1, by simpa [inU_of ra h.1 r1 h.2.1] using k _ G _ H h.2.2 (.bl _) hg .refl⟩
    · rename_i kvs e
      split at h
      · rename_i key ek
        obtain ⟨xs, h1, r1⟩ := hg p _ e
        have hk := key_rel ra ek
        subst hk
        cases (show u = Value.ref p from ry)
        refine d_notIn hu I (DGet.k (k := key) h1) rx fun s' I' => ⟨.bl (!(valV xs key).isSome), H, I', rfl, ?_⟩
        rcases lookK_rel r1 key with ⟨e1, e2⟩ | ⟨uu, vv, e1, e2, _⟩
        · rw [e1] at h; rw [e2]; exact k _ G _ H h (.bl _) hg .refl
        · rw [e1] at h; rw [e2]; exact k _ G _ H h (.bl _) hg .refl
      · exact h.elim
    · exact h.elim
  · rename_i z
    cases rb
    split at h
    · rename_i w
      cases ra
      exact op_notIn_sign pins s σ H _ _ v u Q I rx ry ⟨_, _, congrArg V.str (str1 h.1), rfl, by simpa using k _ G _ H h.2 (.bl _) hg .refl⟩
    · exact h.elim
  · exact h.elim

/-! ### is -/
def isNonU : U → Bool
  | .non => true
  | _ => false
theorem isNon_of {K : PySem.W.Frag} {H : Hp} {u : U} {v : V} (r : RU K H u v) : decide (v = V.non) = isNonU u := by
  cases r <;> first | rfl | exact decide_eq_false (by intro z; cases z)
def uIsF (neg : Bool) : UOp := fun x y G Q => match y with
  | .non => Q (.bl (neg ^^ isNonU x)) G
  | .bl b => (match x with
    | .bl a => Q (.bl (neg ^^ decide (a = b))) G
    | .int _ => Q (.bl neg) G
    | .non => Q (.bl neg) G
    | .str _ => Q (.bl neg) G
    | _ => False)
  | _ => False
theorem is_bool_other {M : Model} {A : Around} {E : Value → Shared → Prop} {s : Shared} {b : Bool} {v : Value} {Q : Value → Shared → Prop} {x : V} (r : RelV x v) (n : ∀ a, x ≠ .bl a) (f : flatV x = true) (h : Q (.bool false) s) : wpAny M A (compareOp .Is v (.bool b)) Q E s := by
  cases x with
  | non => cases r; exact wpAny_is_other rfl (fun z => nomatch z) h
  | bl a => exact absurd rfl (n a)
  | int i => obtain ⟨t, rfl⟩ := r; exact wpAny_is_other rfl (fun z => nomatch z) h
  | str i => obtain ⟨t, rfl⟩ := r; exact wpAny_is_other rfl (fun z => nomatch z) h
  | _ => cases f
theorem isnot_bool_other {M : Model} {A : Around} {E : Value → Shared → Prop} {s : Shared} {b : Bool} {v : Value} {Q : Value → Shared → Prop} {x : V} (r : RelV x v) (n : ∀ a, x ≠ .bl a) (f : flatV x = true) (h : Q (.bool true) s) : wpAny M A (compareOp .IsNot v (.bool b)) Q E s := by
  cases x with
  | non => cases r; exact wpAny_isNot_other rfl (fun z => nomatch z) h
  | bl a => exact absurd rfl (n a)
  | int i => obtain ⟨t, rfl⟩ := r; exact wpAny_isNot_other rfl (fun z => nomatch z) h
  | str i => obtain ⟨t, rfl⟩ := r; exact wpAny_isNot_other rfl (fun z => nomatch z) h
  | _ => cases f
theorem op_uIs : OpR X (compareOp .Is) (c2 X.K (uIsF false)) := by
  intro pins s σ H x y v u Q I rx ry h
  obtain ⟨a, b, G, Q0, ra, rb, hg, h, k⟩ := h
  unfold uIsF at h
  simp only [Bool.false_bne] at h
  split at h
  · cases rb
    exact op_isN pins s σ H _ _ v u Q I rx ry ⟨rfl, by rw [isNon_of ra]; exact k _ G _ H h (.bl _) hg .refl⟩
  · cases rb
    cases (show u = Value.bool _ from ry)
    split at h
    · cases ra
      exact op_isBl pins s σ H _ (.bl _) v _ Q I rx rfl ⟨_, _, rfl, rfl, k _ G _ H h (.bl _) hg .refl⟩
    · cases ra
      exact is_bool_other rx (by intro a z; cases z) rfl ⟨.bl false, H, I, rfl, k _ G _ H h (.bl _) hg .refl⟩
    · cases ra
      exact is_bool_other rx (by intro a z; cases z) rfl ⟨.bl false, H, I, rfl, k _ G _ H h (.bl _) hg .refl⟩
    · cases ra
      exact is_bool_other rx (by intro a z; cases z) rfl ⟨.bl false, H, I, rfl, k _ G _ H h (.bl _) hg .refl⟩
    · exact h.elim
  · exact h.elim
theorem op_uIsNot : OpR X (compareOp .IsNot) (c2 X.K (uIsF true)) := by
  intro pins s σ H x y v u Q I rx ry h
  obtain ⟨a, b, G, Q0, ra, rb, hg, h, k⟩ := h
  unfold uIsF at h
  simp only [Bool.true_bne] at h
  split at h
  · cases rb
    exact op_notN pins s σ H _ _ v u Q I rx ry ⟨rfl, by rw [isNon_of ra]; exact k _ G _ H h (.bl _) hg .refl⟩
  · cases rb
    cases (show u = Value.bool _ from ry)
    split at h
    · cases ra
      exact op_notBl pins s σ H _ (.bl _) v _ Q I rx rfl ⟨_, _, rfl, rfl, k _ G _ H h (.bl _) hg .refl⟩
    · cases ra
      exact isnot_bool_other rx (by intro a z; cases z) rfl ⟨.bl true, H, I, rfl, k _ G _ H h (.bl _) hg .refl⟩
    · cases ra
      exact isnot_bool_other rx (by intro a z; cases z) rfl ⟨.bl true, H, I, rfl, k _ G _ H h (.bl _) hg .refl⟩
    · cases ra
      exact isnot_bool_other rx (by intro a z; cases z) rfl ⟨.bl true, H, I, rfl, k _ G _ H h (.bl _) hg .refl⟩
    · exact h.elim
  · exact h.elim
def uCmp : CmpOp → UOp
  | .Eq => uEqF false
  | .NotEq => uEqF true
  | .Lt => uLt
  | .LtE => uLe
  | .Gt => uGt
  | .GtE => uGe
  | .In => uInF false
  | .NotIn => uInF true
  | .Is => uIsF false
  | .IsNot => uIsF true
theorem cmp_any (hu : X.A.units + 64 < cLine) (op : CmpOp) : OpR X (compareOp op) (c2 X.K (uCmp op)) := by
  cases op with
  | Eq => exact op_uEq hu
  | NotEq => exact op_uNe hu
  | Lt => exact op_uLt
  | LtE => exact op_uLe
  | Gt => exact op_uGt
  | GtE => exact op_uGe
  | In => exact op_uIn (by omega)
  | NotIn => exact op_uNotIn (by omega)
  | Is => exact op_uIs
  | IsNot => exact op_uIsNot

/-! ### truth -/
def uTru (u : U) (G : UH) (Q : Bool → UH → Prop) : Prop := match u with
  | .non => Q false G
  | .bl b => Q b G
  | .int i => Q (i != 0) G
  | .str x => x.length ≤ sizeLine ∧ Q ((x.length : Int) != 0) G
  | .tup us => Q (!us.isEmpty) G
  | .rol us => Q (!us.isEmpty) G
  | .ref a => (match G a with
    | some (.lst us) => Q (!us.isEmpty) G
    | some (.dK us) => Q (!us.isEmpty) G
    | _ => False)
  | .ty _ => False
theorem RUs.isEmpty {K : PySem.W.Frag} {H : Hp} {us : List U} {vs : List V} (r : RUs K H us vs) : vs.isEmpty = us.isEmpty := by
  cases r <;> rfl
theorem RKV.isEmpty {K : PySem.W.Frag} {H : Hp} {κ : Type} {us : List (κ × U)} {vs : List (κ × V)} (r : RKV K H us vs) : vs.isEmpty = us.isEmpty := by
  cases r <;> rfl
theorem tru_u {H : Hp} {G : UH} {u : U} {v : V} {Q : Bool → UH → Prop} (hg : HR X.K G H) (r : RU X.K H u v) (h : uTru u G Q) : ∃ k, TruV X.K v H k ∧ Q k G := by
  unfold uTru at h
  split at h
  · cases r; exact ⟨_, rfl, h⟩
  · cases r; exact ⟨_, rfl, h⟩
  · cases r; exact ⟨_, rfl, h⟩
  · cases r; exact ⟨_, ⟨h.1, rfl⟩, h.2⟩
  · obtain ⟨a, xs, rfl, h1, r1⟩ := r.tup_inv
    exact ⟨_, .inr (.inl ⟨xs, h1, rfl⟩), by rw [r1.isEmpty]; exact h⟩
  · obtain ⟨a, xs, rfl, h1, r1⟩ := r.rol_inv
    exact ⟨_, .inl ⟨xs, h1.sq, rfl⟩, by rw [r1.isEmpty]; exact h⟩
  · cases r
    split at h
    · rename_i e
      obtain ⟨xs, h1, r1⟩ := hg.lst e
      exact ⟨_, .inl ⟨xs, SqL.of h1, rfl⟩, by rw [r1.isEmpty]; exact h⟩
    · rename_i e
      obtain ⟨xs, h1, r1⟩ := hg _ _ e
      exact ⟨_, .inr (.inr ⟨xs, h1, rfl⟩), by rw [r1.isEmpty]; exact h⟩
    · exact h.elim
  · exact h.elim

/-! ### isinstance -/
def tyN (G : UH) : U → Option String
  | .non => some "NoneType"
  | .bl _ => some "bool"
  | .int _ => some "int"
  | .str _ => some "str"
  | .tup _ => some "tuple"
  | .rol _ => some "list"
  | .ref a => (match G a with
    | some (.lst _) => some "list"
    | some (.dK _) => some "dict"
    | _ => none)
  | .ty _ => none
theorem tyX_of {H : Hp} {G : UH} (hg : HR X.K G H) {u : U} {v : V} {t : String} (r : RU X.K H u v) (h : tyN G u = some t) : TyX X.K H v (.type t) := by
  cases r with
  | non => cases h; exact .base .non
  | bl b => cases h; exact .base (.bl b)
  | int b => cases h; exact .base (.int b)
  | str b => cases h; exact .base (.str b)
  | tup hq r =>
    cases h
    rcases hq with (h1 | ⟨o, h1⟩) | ⟨o, its, n, h1, h2, _⟩
    · exact .base (.tup h1)
    · exact .fTuple h1
    · exact .kTuple h1 h2
  | rol hq r =>
    cases h
    rcases hq with ⟨o, h1⟩ | ⟨o, its, n, h1, h2, _⟩
    · exact .base (.frz h1)
    · exact .kList h1 h2
  | ref a =>
    unfold tyN at h
    simp only at h
    split at h
    · rename_i e
      cases h
      obtain ⟨xs, h1, _⟩ := hg.lst e
      exact .base (.lst h1)
    · rename_i e
      cases h
      obtain ⟨xs, h1, _⟩ := hg _ _ e
      exact .base (.dK h1)
    · cases h
  | ty n => cases h
def isSub (a b : String) : Bool := a == b || (a == "bool" && b == "int")
def tyNames : List String := ["NoneType", "bool", "int", "str", "tuple", "list", "dict"]
theorem kit_sub {K : PySem.W.Frag} {a b : String} (ha : a ∈ tyNames) (hb : b ∈ tyNames) : PySem.W.kitOne K (.type a) (.type b) = some (isSub a b) := by
  refine kit_ty ?_
  revert ha hb
  have h : ∀ a ∈ tyNames, ∀ b ∈ tyNames, kitB a b = some (isSub a b) := by decide +kernel
  exact fun ha hb => h a ha b hb
theorem tyN_mem {G : UH} {u : U} {t : String} (h : tyN G u = some t) : t ∈ tyNames := by
  unfold tyN at h
  split at h <;> first
    | (cases h; done)
    | (cases h; decide)
    | (split at h <;> first | (cases h; done) | (cases h; decide))
/-- isinstance(x, T) -/
def uIsi : UFn := fun us G Q => match us with
  | [x, .ty b] => (match tyN G x with
    | some a => b ∈ tyNames ∧ Q (.bl (isSub a b)) G
    | none => False)
  | _ => False
theorem call_uIsi : CallR X (.builtin "isinstance") (cF X.K uIsi) := by
  intro pins s σ H xs us Q I r h
  obtain ⟨ws, G, Q0, rw', hg, h, k⟩ := h
  unfold uIsi at h
  split at h
  · cases rw' with
    | cons r1 rt =>
      cases rt with
      | cons r2 rt =>
        cases rt
        cases r2
        split at h
        · rename_i a e
          exact call_isi pins s σ H _ us Q I r ⟨_, _, _, _, _, rfl, .ty _, tyX_of hg r1 e, kit_sub (tyN_mem e) h.1, k _ G _ H h.2 (.bl _) hg .refl⟩
        · exact h.elim
  · exact h.elim
end
end UL
set_option Elab.async false
set_option linter.all false
set_option autoImplicit false
set_option maxRecDepth 100000
set_option maxHeartbeats 4000000
/-! UL4: built-in functions, subscripts, slices, methods by values. -/
namespace UL
open PySem PySem.Spec L2
section
variable {X : Cx}
def intsOf : List U → Option (List Int)
  | [] => some []
  | .int i :: us => (intsOf us).map fun ns => i :: ns
  | _ :: _ => none
theorem intsOf_eq : ∀ {us : List U} {ns : List Int}, intsOf us = some ns → us = ns.map U.int
  | [], _, h => by cases h; rfl
  | .int i :: us, _, h => by
    simp only [intsOf, Option.map_eq_some_iff] at h
    obtain ⟨ns, h1, h2⟩ := h
    subst h2
    rw [intsOf_eq h1]; rfl
  | .non :: us, _, h => by cases h
  | .bl _ :: us, _, h => by cases h
  | .str _ :: us, _, h => by cases h
  | .tup _ :: us, _, h => by cases h
  | .rol _ :: us, _, h => by cases h
  | .ref _ :: us, _, h => by cases h
  | .ty _ :: us, _, h => by cases h
theorem intsOf_map : ∀ ns : List Int, intsOf (ns.map U.int) = some ns
  | [] => rfl
  | n :: ns => by simp [intsOf, intsOf_map ns]
def blsOf : List U → Option (List Bool)
  | [] => some []
  | .bl i :: us => (blsOf us).map fun ns => i :: ns
  | _ :: _ => none
theorem blsOf_eq : ∀ {us : List U} {ns : List Bool}, blsOf us = some ns → us = ns.map U.bl
  | [], _, h => by cases h; rfl
  | .bl i :: us, _, h => by
    simp only [blsOf, Option.map_eq_some_iff] at h
    obtain ⟨ns, h1, h2⟩ := h
    subst h2
    rw [blsOf_eq h1]; rfl
  | .non :: us, _, h => by cases h
  | .int _ :: us, _, h => by cases h
  | .str _ :: us, _, h => by cases h
  | .tup _ :: us, _, h => by cases h
  | .rol _ :: us, _, h => by cases h
  | .ref _ :: us, _, h => by cases h
  | .ty _ :: us, _, h => by cases h
theorem blsOf_map : ∀ ns : List Bool, blsOf (ns.map U.bl) = some ns
  | [] => rfl
  | n :: ns => by simp [blsOf, blsOf_map ns]
def strsOf : List U → Option (List Str)
  | [] => some []
  | .str i :: us => (strsOf us).map fun ns => i :: ns
  | _ :: _ => none
theorem strsOf_eq : ∀ {us : List U} {ns : List Str}, strsOf us = some ns → us = ns.map U.str
  | [], _, h => by cases h; rfl
  | .str i :: us, _, h => by
    simp only [strsOf, Option.map_eq_some_iff] at h
    obtain ⟨ns, h1, h2⟩ := h
    subst h2
    rw [strsOf_eq h1]; rfl
  | .non :: us, _, h => by cases h
  | .int _ :: us, _, h => by cases h
  | .bl _ :: us, _, h => by cases h
  | .tup _ :: us, _, h => by cases h
  | .rol _ :: us, _, h => by cases h
  | .ref _ :: us, _, h => by cases h
  | .ty _ :: us, _, h => by cases h
theorem strsOf_map : ∀ ns : List Str, strsOf (ns.map U.str) = some ns
  | [] => rfl
  | n :: ns => by simp [strsOf, strsOf_map ns]

theorem rus1 {K : PySem.W.Frag} {H : Hp} {u : U} {xs : List V} (r : RUs K H [u] xs) : ∃ x, xs = [x] ∧ RU K H u x := by
  cases r with
  | cons r t => cases t; exact ⟨_, rfl, r⟩
theorem rus2 {K : PySem.W.Frag} {H : Hp} {u w : U} {xs : List V} (r : RUs K H [u, w] xs) : ∃ x y, xs = [x, y] ∧ RU K H u x ∧ RU K H w y := by
  cases r with
  | cons r t => obtain ⟨y, rfl, q⟩ := rus1 t; exact ⟨_, _, rfl, r, q⟩

/-! ### built-in functions -/
inductive Blt where
  | len | abs | max2 | min2 | int | str | ord | sum | sorted | tuple | list | all | any | maxL | minL | divmod | isi
  deriving DecidableEq
def uLen : UFn := fun us G Q => match us with
  | [.str x] => x.length ≤ sizeLine ∧ Q (.int x.length) G
  | [.tup us] => Q (.int us.length) G
  | [.rol us] => Q (.int us.length) G
  | [.ref a] => (match G a with
    | some (.lst us) => Q (.int us.length) G
    | some (.dK us) => Q (.int us.length) G
    | _ => False)
  | _ => False
theorem call_uLen : CallR X (.builtin "len") (cF X.K uLen) := by
  intro pins s σ H xs us Q I r h
  obtain ⟨ws, G, Q0, rw', hg, h, k⟩ := h
  unfold uLen at h
  split at h
  · obtain ⟨x, rfl, q⟩ := rus1 rw'
    cases q
    exact call_len pins s σ H _ us Q I r ⟨_, _, rfl, ⟨h.1, rfl⟩, k _ G _ H h.2 (.int _) hg .refl⟩
  · obtain ⟨x, rfl, q⟩ := rus1 rw'
    obtain ⟨a, ys, rfl, h1, r1⟩ := q.tup_inv
    exact call_len pins s σ H _ us Q I r ⟨_, ys.length, rfl, .inr ⟨ys, h1, rfl⟩, by rw [← r1.length]; exact k _ G _ H h (.int _) hg .refl⟩
  · obtain ⟨x, rfl, q⟩ := rus1 rw'
    obtain ⟨a, ys, rfl, h1, r1⟩ := q.rol_inv
    exact call_len pins s σ H _ us Q I r ⟨_, ys.length, rfl, .inl ⟨ys, h1.sq, rfl⟩, by rw [← r1.length]; exact k _ G _ H h (.int _) hg .refl⟩
  · rename_i a
    obtain ⟨x, rfl, q⟩ := rus1 rw'
    cases q
    split at h
    · rename_i e
      obtain ⟨ys, h1, r1⟩ := hg.lst e
      exact call_len pins s σ H _ us Q I r ⟨_, ys.length, rfl, .inl ⟨ys, SqL.of h1, rfl⟩, by rw [← r1.length]; exact k _ G _ H h (.int _) hg .refl⟩
    · rename_i ks e
      obtain ⟨ys, h1, r1⟩ := hg a _ e
      have hl : ks.length = ys.length := Paired.length r1
      obtain ⟨w', rfl, rr⟩ := vals1 r
      cases rr
      exact d_len I (.inl h1) fun t s' I' => ⟨.int ys.length, H, I', ⟨t, rfl⟩, by rw [← hl]; exact k _ G _ H h (.int _) hg .refl⟩
    · exact h.elim
  · exact h.elim
def uAbs : UFn := fun us G Q => match us with
  | [.int i] => Q (.int i.natAbs) G
  | _ => False
theorem call_uAbs : CallR X (.builtin "abs") (cF X.K uAbs) := by
  intro pins s σ H xs us Q I r h
  obtain ⟨ws, G, Q0, rw', hg, h, k⟩ := h
  unfold uAbs at h
  split at h
  · rename_i i
    obtain ⟨x, rfl, q⟩ := rus1 rw'
    cases q
    refine call_abs pins s σ H _ us Q I r ⟨_, rfl, ?_⟩
    have e : (if i < 0 then -i else i) = (i.natAbs : Int) := by split <;> omega
    rw [e]
    exact k _ G _ H h (.int _) hg .refl
  · exact h.elim
def uMax2 : UFn := fun us G Q => match us with
  | [.int i, .int j] => Q (.int (max i j)) G
  | _ => False
theorem call_uMax2 (hc : X.calm = true) : CallR X (.builtin "max") (cF X.K uMax2) := by
  intro pins s σ H xs us Q I r h
  obtain ⟨ws, G, Q0, rw', hg, h, k⟩ := h
  unfold uMax2 at h
  split at h
  · rename_i i j
    obtain ⟨x, y, rfl, q1, q2⟩ := rus2 rw'
    cases q1; cases q2
    refine call_max2 hc pins s σ H _ us Q I r ⟨_, _, rfl, ?_⟩
    have e : (if j > i then j else i) = max i j := by split <;> omega
    rw [e]
    exact k _ G _ H h (.int _) hg .refl
  · exact h.elim
def uMin2 : UFn := fun us G Q => match us with
  | [.int i, .int j] => Q (.int (min i j)) G
  | _ => False
theorem call_uMin2 (hc : X.calm = true) : CallR X (.builtin "min") (cF X.K uMin2) := by
  intro pins s σ H xs us Q I r h
  obtain ⟨ws, G, Q0, rw', hg, h, k⟩ := h
  unfold uMin2 at h
  split at h
  · rename_i i j
    obtain ⟨x, y, rfl, q1, q2⟩ := rus2 rw'
    cases q1; cases q2
    refine call_min2 hc pins s σ H _ us Q I r ⟨_, _, rfl, ?_⟩
    have e : (if j < i then j else i) = min i j := by split <;> omega
    rw [e]
    exact k _ G _ H h (.int _) hg .refl
  · exact h.elim
def uInt : UFn := fun us G Q => match us with
  | [.int i] => Q (.int i) G
  | [.bl b] => Q (.int (if b then 1 else 0)) G
  | [.str a] => (match PySem.intText? a with
    | some n => a.length ≤ 640 ∧ Q (.int n) G
    | none => False)
  | _ => False
theorem call_uInt : CallR X (.type "int") (cF X.K uInt) := by
  intro pins s σ H xs us Q I r h
  obtain ⟨ws, G, Q0, rw', hg, h, k⟩ := h
  unfold uInt at h
  split at h
  · obtain ⟨x, rfl, q⟩ := rus1 rw'
    cases q
    exact call_int1 pins s σ H _ us Q I r (.inl ⟨_, rfl, k _ G _ H h (.int _) hg .refl⟩)
  · obtain ⟨x, rfl, q⟩ := rus1 rw'
    cases q
    exact call_int1 pins s σ H _ us Q I r (.inr ⟨_, rfl, k _ G _ H h (.int _) hg .refl⟩)
  · obtain ⟨x, rfl, q⟩ := rus1 rw'
    cases q
    split at h
    · rename_i n e
      exact call_int_str pins s σ H _ us Q I r ⟨_, _, rfl, e, h.1, k _ G _ H h.2 (.int _) hg .refl⟩
    · exact h.elim
  · exact h.elim
def uStr : UFn := fun us G Q => match us with
  | [.int i] => i.natAbs.log2 < 1920 ∧ Q (.str (toString i)) G
  | _ => False
theorem call_uStr : CallR X (.type "str") (cF X.K uStr) := by
  intro pins s σ H xs us Q I r h
  obtain ⟨ws, G, Q0, rw', hg, h, k⟩ := h
  unfold uStr at h
  split at h
  · obtain ⟨x, rfl, q⟩ := rus1 rw'
    cases q
    exact call_str_int pins s σ H _ us Q I r ⟨_, rfl, h.1, k _ G _ H h.2 (.str _) hg .refl⟩
  · exact h.elim
def uOrd : UFn := fun us G Q => match us with
  | [.str x] => x.length = 1 ∧ Q (.int (x.cps.getD 0 0 : Nat)) G
  | _ => False
theorem call_uOrd : CallR X (.builtin "ord") (cF X.K uOrd) := by
  intro pins s σ H xs us Q I r h
  obtain ⟨ws, G, Q0, rw', hg, h, k⟩ := h
  unfold uOrd at h
  split at h
  · obtain ⟨x, rfl, q⟩ := rus1 rw'
    cases q
    exact call_ord pins s σ H _ us Q I r ⟨_, rfl, h.1, k _ G _ H h.2 (.int _) hg .refl⟩
  · exact h.elim
/-- a list of ints at a place, or a locked one -/
def uIntL (us : List U) (G : UH) (k : List Int → Prop) : Prop := match us with
  | [.ref a] => (match G a with
    | some (.lst us) => (match intsOf us with
      | some ns => k ns
      | none => False)
    | _ => False)
  | _ => False
theorem intL_of {K : PySem.W.Frag} {H : Hp} {G : UH} (hg : HR K G H) {us : List U} {xs : List V} (r : RUs K H us xs) {k : List Int → Prop} (h : uIntL us G k) :
    ∃ a ns, xs = [.ref a] ∧ H a = some (.lst (ns.map V.int)) ∧ G a = some (.lst (ns.map U.int)) ∧ k ns := by
  unfold uIntL at h
  split at h
  · obtain ⟨x, rfl, q⟩ := rus1 r
    cases q
    split at h
    · rename_i us e
      split at h
      · rename_i ns e2
        obtain ⟨ys, h1, r1⟩ := hg.lst e
        have e3 := intsOf_eq e2
        subst e3
        have e4 := RUs.ints r1
        subst e4
        exact ⟨_, ns, rfl, h1, e, h⟩
      · exact h.elim
    · exact h.elim
  · exact h.elim
def uSum : UFn := fun us G Q => uIntL us G fun ns => Q (.int ns.sum) G
theorem call_uSum (hc : X.calm = true) : CallR X (.builtin "sum") (cF X.K uSum) := by
  intro pins s σ H xs us Q I r h
  obtain ⟨ws, G, Q0, rw', hg, h, k⟩ := h
  obtain ⟨a, ns, rfl, h1, _, h⟩ := intL_of hg rw' h
  exact cr_sum hc pins s σ H _ us Q I r ⟨a, ns, rfl, SqL.of h1, k _ G _ H h (.int _) hg .refl⟩
def uMaxL : UFn := fun us G Q => uIntL us G fun ns => 0 < ns.length ∧ ∀ m, m ∈ ns → (∀ y, y ∈ ns → y ≤ m) → Q (.int m) G
theorem call_uMaxL (hc : X.calm = true) : CallR X (.builtin "max") (cF X.K uMaxL) := by
  intro pins s σ H xs us Q I r h
  obtain ⟨ws, G, Q0, rw', hg, h, k⟩ := h
  obtain ⟨a, ns, rfl, h1, _, h⟩ := intL_of hg rw' h
  exact cr_max hc pins s σ H _ us Q I r ⟨a, ns, rfl, SqL.of h1, h.1, fun m h3 h4 => k _ G _ H (h.2 m h3 h4) (.int _) hg .refl⟩
def uMinL : UFn := fun us G Q => uIntL us G fun ns => 0 < ns.length ∧ ∀ m, m ∈ ns → (∀ y, y ∈ ns → m ≤ y) → Q (.int m) G
theorem call_uMinL (hc : X.calm = true) : CallR X (.builtin "min") (cF X.K uMinL) := by
  intro pins s σ H xs us Q I r h
  obtain ⟨ws, G, Q0, rw', hg, h, k⟩ := h
  obtain ⟨a, ns, rfl, h1, _, h⟩ := intL_of hg rw' h
  exact cr_min hc pins s σ H _ us Q I r ⟨a, ns, rfl, SqL.of h1, h.1, fun m h3 h4 => k _ G _ H (h.2 m h3 h4) (.int _) hg .refl⟩
def uSorted : UFn := fun us G Q => uIntL us G fun ns => ∀ ns' : List Int, ns'.Perm ns → ns'.Pairwise (· ≤ ·) → ∀ p, G p = none → Q (.ref p) (up G p (.lst (ns'.map U.int)))
theorem call_uSorted : CallR X (.builtin "sorted") (cF X.K uSorted) := by
  intro pins s σ H xs us Q I r h
  obtain ⟨ws, G, Q0, rw', hg, h, k⟩ := h
  obtain ⟨a, ns, rfl, h1, _, h⟩ := intL_of hg rw' h
  refine cr_sortedI pins s σ H _ us Q I r ⟨a, ns, rfl, SqL.of h1, fun ns' p p1 p2 hp => ?_⟩
  obtain ⟨e, g⟩ := hg.newLst hp (RUs.of_ints ns')
  exact k _ _ _ _ (h ns' p1 p2 p (hg.fresh hp)) (.ref p) g e
def uTuple : UFn := fun us G Q => match us with
  | [.tup us] => Q (.tup us) G
  | [.rol us] => Q (.tup us) G
  | [.ref a] => (match G a with
    | some (.lst us) => Q (.tup us) G
    | _ => False)
  | _ => False
theorem call_uTuple : CallR X (.type "tuple") (cF X.K uTuple) := by
  intro pins s σ H xs us Q I r h
  obtain ⟨ws, G, Q0, rw', hg, h, k⟩ := h
  unfold uTuple at h
  split at h
  · obtain ⟨x, rfl, q⟩ := rus1 rw'
    obtain ⟨a, ys, rfl, h1, r1⟩ := q.tup_inv
    exact call_tuple_of pins s σ H _ us Q I r ⟨a, ys, rfl, .inr ⟨h1, k _ G _ H h q hg .refl⟩⟩
  · obtain ⟨x, rfl, q⟩ := rus1 rw'
    obtain ⟨a, ys, rfl, h1, r1⟩ := q.rol_inv
    refine call_tuple_of pins s σ H _ us Q I r ⟨a, ys, rfl, .inl ⟨h1.sq, fun l hl => ?_⟩⟩
    obtain ⟨e, g, q⟩ := hg.newTup hl r1
    exact k _ G _ _ h q g e
  · obtain ⟨x, rfl, q⟩ := rus1 rw'
    cases q
    split at h
    · rename_i e
      obtain ⟨ys, h1, r1⟩ := hg.lst e
      refine call_tuple_of pins s σ H _ us Q I r ⟨_, ys, rfl, .inl ⟨SqL.of h1, fun l hl => ?_⟩⟩
      obtain ⟨e, g, q⟩ := hg.newTup hl r1
      exact k _ G _ _ h q g e
    · exact h.elim
  · exact h.elim
def uList : UFn := fun us G Q => match us with
  | [.tup us] => ∀ p, G p = none → Q (.ref p) (up G p (.lst us))
  | [.rol us] => ∀ p, G p = none → Q (.ref p) (up G p (.lst us))
  | [.ref a] => (match G a with
    | some (.lst us) => ∀ p, G p = none → Q (.ref p) (up G p (.lst us))
    | _ => False)
  | _ => False
theorem call_uList : CallR X (.type "list") (cF X.K uList) := by
  intro pins s σ H xs us Q I r h
  obtain ⟨ws, G, Q0, rw', hg, h, k⟩ := h
  unfold uList at h
  split at h
  · obtain ⟨x, rfl, q⟩ := rus1 rw'
    obtain ⟨a, ys, rfl, h1, r1⟩ := q.tup_inv
    refine call_list_of pins s σ H _ us Q I r ⟨a, ys, rfl, .inr h1, fun l hl => ?_⟩
    obtain ⟨e, g⟩ := hg.newLst hl r1
    exact k _ _ _ _ (h l (hg.fresh hl)) (.ref l) g e
  · obtain ⟨x, rfl, q⟩ := rus1 rw'
    obtain ⟨a, ys, rfl, h1, r1⟩ := q.rol_inv
    refine call_list_of pins s σ H _ us Q I r ⟨a, ys, rfl, .inl h1.sq, fun l hl => ?_⟩
    obtain ⟨e, g⟩ := hg.newLst hl r1
    exact k _ _ _ _ (h l (hg.fresh hl)) (.ref l) g e
  · obtain ⟨x, rfl, q⟩ := rus1 rw'
    cases q
    split at h
    · rename_i e
      obtain ⟨ys, h1, r1⟩ := hg.lst e
      refine call_list_of pins s σ H _ us Q I r ⟨_, ys, rfl, .inl (SqL.of h1), fun l hl => ?_⟩
      obtain ⟨e, g⟩ := hg.newLst hl r1
      exact k _ _ _ _ (h l (hg.fresh hl)) (.ref l) g e
    · exact h.elim
  · exact h.elim
def uBlL (us : List U) (G : UH) (k : List Bool → Prop) : Prop := match us with
  | [.ref a] => (match G a with
    | some (.lst us) => (match blsOf us with
      | some ns => k ns
      | none => False)
    | _ => False)
  | _ => False
theorem blL_of {K : PySem.W.Frag} {H : Hp} {G : UH} (hg : HR K G H) {us : List U} {xs : List V} (r : RUs K H us xs) {k : List Bool → Prop} (h : uBlL us G k) :
    ∃ a ns, xs = [.ref a] ∧ H a = some (.lst (ns.map V.bl)) ∧ k ns := by
  unfold uBlL at h
  split at h
  · obtain ⟨x, rfl, q⟩ := rus1 r
    cases q
    split at h
    · rename_i us e
      split at h
      · rename_i ns e2
        obtain ⟨ys, h1, r1⟩ := hg.lst e
        have e3 := blsOf_eq e2
        subst e3
        have e4 := RUs.bls r1
        subst e4
        exact ⟨_, ns, rfl, h1, h⟩
      · exact h.elim
    · exact h.elim
  · exact h.elim
def uAll : UFn := fun us G Q => uBlL us G fun bs => Q (.bl (bs.all id)) G
theorem call_uAll (hc : X.calm = true) : CallR X (.builtin "all") (cF X.K uAll) := by
  intro pins s σ H xs us Q I r h
  obtain ⟨ws, G, Q0, rw', hg, h, k⟩ := h
  obtain ⟨a, ns, rfl, h1, h⟩ := blL_of hg rw' h
  exact cr_all hc pins s σ H _ us Q I r ⟨a, ns, rfl, SqL.of h1, k _ G _ H h (.bl _) hg .refl⟩
def uAny : UFn := fun us G Q => uBlL us G fun bs => Q (.bl (bs.any id)) G
theorem call_uAny (hc : X.calm = true) : CallR X (.builtin "any") (cF X.K uAny) := by
  intro pins s σ H xs us Q I r h
  obtain ⟨ws, G, Q0, rw', hg, h, k⟩ := h
  obtain ⟨a, ns, rfl, h1, h⟩ := blL_of hg rw' h
  exact cr_any hc pins s σ H _ us Q I r ⟨a, ns, rfl, SqL.of h1, k _ G _ H h (.bl _) hg .refl⟩
def uDivmod : UFn := fun us G Q => match us with
  | [.int i, .int j] => CDiv i j ∧ Q (.tup [.int (i / j), .int (i % j)]) G
  | _ => False
theorem call_uDivmod : CallR X (.builtin "divmod") (cF X.K uDivmod) := by
  intro pins s σ H xs us Q I r h
  obtain ⟨ws, G, Q0, rw', hg, h, k⟩ := h
  unfold uDivmod at h
  split at h
  · rename_i i j
    obtain ⟨x, y, rfl, q1, q2⟩ := rus2 rw'
    cases q1; cases q2
    refine call_divmod pins s σ H _ us Q I r ⟨_, _, rfl, h.1, fun p hp => ?_⟩
    obtain ⟨e, g, q⟩ := hg.newTup hp (ws := [.int (i / j), .int (i % j)]) (.cons (.int _) (.cons (.int _) .nil))
    exact k _ G _ _ h.2 q g e
  · exact h.elim
/-- the name, whether it is a type, its id -/
def Blt.nm : Blt → Str
  | .len => "len"
  | .abs => "abs"
  | .max2 => "max"
  | .min2 => "min"
  | .int => "int"
  | .str => "str"
  | .ord => "ord"
  | .sum => "sum"
  | .sorted => "sorted"
  | .tuple => "tuple"
  | .list => "list"
  | .all => "all"
  | .any => "any"
  | .maxL => "max"
  | .minL => "min"
  | .divmod => "divmod"
  | .isi => "isinstance"
def Blt.val : Blt → Value
  | .len => .builtin "len"
  | .abs => .builtin "abs"
  | .max2 => .builtin "max"
  | .min2 => .builtin "min"
  | .int => .type "int"
  | .str => .type "str"
  | .ord => .builtin "ord"
  | .sum => .builtin "sum"
  | .sorted => .builtin "sorted"
  | .tuple => .type "tuple"
  | .list => .type "list"
  | .all => .builtin "all"
  | .any => .builtin "any"
  | .maxL => .builtin "max"
  | .minL => .builtin "min"
  | .divmod => .builtin "divmod"
  | .isi => .builtin "isinstance"
def Blt.fn : Blt → UFn
  | .len => uLen
  | .abs => uAbs
  | .max2 => uMax2
  | .min2 => uMin2
  | .int => uInt
  | .str => uStr
  | .ord => uOrd
  | .sum => uSum
  | .sorted => uSorted
  | .tuple => uTuple
  | .list => uList
  | .all => uAll
  | .any => uAny
  | .maxL => uMaxL
  | .minL => uMinL
  | .divmod => uDivmod
  | .isi => uIsi
def Blt.cool : Blt → Bool
  | .max2 | .min2 | .sum | .all | .any | .maxL | .minL => true
  | _ => false
theorem Blt.ok (b : Blt) (hc : b.cool = true → X.calm = true) : CallR X b.val (cF X.K b.fn) := by
  cases b with
  | len => exact call_uLen
  | abs => exact call_uAbs
  | max2 => exact call_uMax2 (hc rfl)
  | min2 => exact call_uMin2 (hc rfl)
  | int => exact call_uInt
  | str => exact call_uStr
  | ord => exact call_uOrd
  | sum => exact call_uSum (hc rfl)
  | sorted => exact call_uSorted
  | tuple => exact call_uTuple
  | list => exact call_uList
  | all => exact call_uAll (hc rfl)
  | any => exact call_uAny (hc rfl)
  | maxL => exact call_uMaxL (hc rfl)
  | minL => exact call_uMinL (hc rfl)
  | divmod => exact call_uDivmod
  | isi => exact call_uIsi

/-! ### subscripts -/
def uIx : UOp := fun x y G Q => match x, y with
  | .tup us, .int i => (match atI us i with
    | some u => Q u G
    | none => False)
  | .rol us, .int i => (match atI us i with
    | some u => Q u G
    | none => False)
  | .str z, .int i => z.length ≤ sizeLine ∧ (match atI z.cps.toList i with
    | some c => Q (.str ⟨#[c]⟩) G
    | none => False)
  | .ref a, k => (match G a with
    | some (.lst us) => (match k with
      | .int i => (match atI us i with
        | some u => Q u G
        | none => False)
      | _ => False)
    | some (.dK kvs) => (match keyOf k with
      | some kk => (match lookK kvs kk with
        | some u => Q u G
        | none => False)
      | none => False)
    | _ => False)
  | _, _ => False
theorem atI_rel {K : PySem.W.Frag} {H : Hp} {us : List U} {vs : List V} (r : RUs K H us vs) {i : Int} {u : U} (h : atI us i = some u) : ∃ v, atI vs i = some v ∧ RU K H u v := by
  unfold atI at *
  rw [← r.length]
  cases e : ixN us.length i with
  | none => rw [e] at h; cases h
  | some j =>
    rw [e] at h
    exact r.get (i := j) h
theorem ix_dict (hu : X.A.units + 1 < cLine) : IxR X (fun x y H Q => ∃ a v, x = .ref a ∧ DGet H a y (some v) ∧ Q v H) := by
  intro value slice pins s σ H x y v u Q I rx ry h hs
  obtain ⟨a, z, rfl, g, q⟩ := h
  cases (show v = Value.ref a from rx)
  exact PyProof.Rows.tail_any (dict_typeIs I g) slot_dict_getitem.lookup (d_getItem hu I g ry fun w' s' I' r' => ⟨z, H, I', r', q⟩) hs
theorem ix_u (hu : X.A.units + 1 < cLine) : IxR X (c2 X.K uIx) := by
  intro value slice pins s σ H x y v u Q I rx ry h hs
  obtain ⟨a, b, G, Q0, ra, rb, hg, h, k⟩ := h
  unfold uIx at h
  split at h
  · split at h
    · rename_i e
      obtain ⟨p, xs, rfl, h1, r1⟩ := ra.tup_inv
      cases rb
      obtain ⟨vv, e2, r2⟩ := atI_rel r1 e
      exact ix_tup value slice pins s σ H _ _ v u Q I rx ry ⟨p, xs, _, vv, rfl, rfl, h1, e2, k _ G _ H h r2 hg .refl⟩ hs
    · exact h.elim
  · split at h
    · rename_i e
      obtain ⟨p, xs, rfl, h1, r1⟩ := ra.rol_inv
      cases rb
      obtain ⟨vv, e2, r2⟩ := atI_rel r1 e
      exact ix_list value slice pins s σ H _ _ v u Q I rx ry ⟨p, xs, _, vv, rfl, rfl, h1.sq, e2, k _ G _ H h r2 hg .refl⟩ hs
    · exact h.elim
  · obtain ⟨hz, h⟩ := h
    split at h
    · rename_i e
      cases ra; cases rb
      exact ix_str value slice pins s σ H _ _ v u Q I rx ry ⟨_, _, _, rfl, rfl, hz, e, k _ G _ H h (.str _) hg .refl⟩ hs
    · exact h.elim
  · cases ra with
    | ref =>
      split at h
      · rename_i us e
        split at h
        · split at h
          · rename_i e3
            obtain ⟨xs, h1, r1⟩ := hg.lst e
            cases rb
            obtain ⟨vv, e2, r2⟩ := atI_rel r1 e3
            exact ix_list value slice pins s σ H _ _ v u Q I rx ry ⟨_, xs, _, vv, rfl, rfl, SqL.of h1, e2, k _ G _ H h r2 hg .refl⟩ hs
          · exact h.elim
        · exact h.elim
      · rename_i kvs e
        split at h
        · rename_i key ek
          split at h
          · rename_i uu el
            obtain ⟨xs, h1, r1⟩ := hg _ _ e
            have hk := key_rel rb ek
            subst hk
            rcases lookK_rel r1 key with ⟨e1, e2⟩ | ⟨u3, v3, e1, e2, r3⟩
            · rw [el] at e1; cases e1
            · rw [el] at e1; cases e1
              exact ix_dict hu value slice pins s σ H _ _ v u Q I rx ry ⟨_, v3, rfl, by rw [← e2]; exact DGet.k h1, k _ G _ H h r3 hg .refl⟩ hs
          · exact h.elim
        · exact h.elim
      · exact h.elim
  · exact h.elim
/-! ### slices -/
def cutU (xs : List U) (lo hi : Option Int) : List U := (xs.drop (HT.sIx xs.length 0 lo)).take (HT.sIx xs.length xs.length hi - HT.sIx xs.length 0 lo)
theorem cut_rel {K : PySem.W.Frag} {H : Hp} {us : List U} {vs : List V} (r : RUs K H us vs) (lo hi : Option Int) : RUs K H (cutU us lo hi) (cutV vs lo hi) := by
  unfold cutU cutV
  rw [r.length]
  exact RUs.take _ (RUs.drop _ r)
def uSl (x : U) (lo hi : Option Int) : UH → UK → Prop := fun G Q => match x with
  | .tup us => Q (.tup (cutU us lo hi)) G
  | .rol us => ∀ p, G p = none → Q (.ref p) (up G p (.lst (cutU us lo hi)))
  | .str z => z.length ≤ sizeLine ∧ Q (.str (cutS z lo hi)) G
  | .ref a => (match G a with
    | some (.lst us) => ∀ p, G p = none → Q (.ref p) (up G p (.lst (cutU us lo hi)))
    | _ => False)
  | _ => False
def cSl (K : PySem.W.Frag) : V → Option Int → Option Int → Hp → VK → Prop := fun x lo hi H Q => ∃ u G Q0, RU K H u x ∧ HR K G H ∧ uSl u lo hi G Q0 ∧ ∀ z G' v H', Q0 z G' → RU K H' z v → HR K G' H' → Ext H H' → Q v H'
theorem cutU_all {us : List U} {lo hi : Option Int} (h : HT.sIx us.length 0 lo = 0 ∧ HT.sIx us.length us.length hi = us.length) : cutU us lo hi = us := by
  unfold cutU
  rw [h.1, h.2]
  simp
theorem sl_u : SlR X (cSl X.K) := by
  intro pins s σ H x v vl vu lo hi sl Q I rx hs pl pu h
  obtain ⟨a, G, Q0, ra, hg, h, k⟩ := h
  unfold uSl at h
  split at h
  · obtain ⟨p, xs, rfl, h1, r1⟩ := ra.tup_inv
    refine sl_tupA pins s σ H _ v vl vu lo hi sl Q I rx hs pl pu ⟨p, xs, rfl, h1, fun e => ?_, fun _ l hl => ?_⟩
    · rw [← r1.length] at e
      rw [cutU_all e] at h
      exact k _ G _ H h ra hg .refl
    · obtain ⟨e, g, q⟩ := hg.newTup hl (cut_rel r1 lo hi)
      exact k _ G _ _ h q g e
  · obtain ⟨p, xs, rfl, h1, r1⟩ := ra.rol_inv
    refine sl_list pins s σ H _ v vl vu lo hi sl Q I rx hs pl pu ⟨p, xs, rfl, h1.sq, fun l hl => ?_⟩
    obtain ⟨e, g⟩ := hg.newLst hl (cut_rel r1 lo hi)
    exact k _ _ _ _ (h l (hg.fresh hl)) (.ref l) g e
  · cases ra
    exact sl_str pins s σ H _ v vl vu lo hi sl Q I rx hs pl pu ⟨_, rfl, h.1, k _ G _ H h.2 (.str _) hg .refl⟩
  · cases ra
    split at h
    · rename_i e
      obtain ⟨xs, h1, r1⟩ := hg.lst e
      refine sl_list pins s σ H _ v vl vu lo hi sl Q I rx hs pl pu ⟨_, xs, rfl, SqL.of h1, fun l hl => ?_⟩
      obtain ⟨e, g⟩ := hg.newLst hl (cut_rel r1 lo hi)
      exact k _ _ _ _ (h l (hg.fresh hl)) (.ref l) g e
    · exact h.elim
  · exact h.elim
end
end UL
set_option Elab.async false
set_option linter.all false
set_option autoImplicit false
set_option maxRecDepth 100000
set_option maxHeartbeats 4000000
/-! UL5: enumerate and zip over lists and tuples in any mix. -/
namespace UL
open PySem PySem.Spec L2
/-- a list (false) or a tuple (true) that is read -/
def SqK (K : PySem.W.Frag) (H : Hp) : Bool → Addr → List V → Prop
  | false => SqL K H
  | true => SqT K H
def ItK (h : Heap) : Bool → Addr → Addr → Nat → Prop
  | false => fun it a i => h.IsListIter it a i
  | true => fun it a i => h.IsTupleIter it a i
def IsK (h : Heap) : Bool → Addr → Array Value → Prop
  | false => fun a its => h.IsList a its
  | true => fun a its => h.IsTuple a its
def itO : Bool → Addr → Obj
  | false => fun a => { cls := .type "list_iterator", data := .fields #[.ref a, .int 0 0] }
  | true => fun a => { cls := .type "tuple_iterator", data := .fields #[.ref a, .int 0 0] }
theorem beginsK (k : Bool) (a : Addr) (items : Array Value) : Begins (.ref a) (itO k a) fun h => IsK h k a items := by
  cases k with
  | false => exact begins_list a items
  | true => exact begins_tuple a items
theorem ItK.new {h : Heap} {k : Bool} {it a : Addr} (e : h.get? it = some (itO k a)) : ItK h k it a 0 := by
  cases k with
  | false => exact ⟨_, e, rfl, rfl⟩
  | true => exact ⟨_, e, rfl, rfl⟩
theorem ItK.at {h h' : Heap} {k : Bool} {it a : Addr} {i : Nat} (st : ItK h k it a i) (f : ∀ o, h.get? it = some o → h'.get? it = some o) : ItK h' k it a i := by
  cases k with
  | false => exact Heap.IsListIter.at st f
  | true => exact Heap.IsTupleIter.at st f
theorem ItK.obj {h : Heap} {k : Bool} {it a : Addr} {i : Nat} (st : ItK h k it a i) : ∃ o, h.get? it = some o ∧ ∀ v, o.data ≠ .cell v := by
  cases k with
  | false =>
    obtain ⟨o, e, _, d⟩ := st
    exact ⟨o, e, fun v z => by rw [d] at z; cases z⟩
  | true =>
    obtain ⟨o, e, _, d⟩ := st
    exact ⟨o, e, fun v z => by rw [d] at z; cases z⟩
theorem drawsK {prog : Program} {w : World} {A : Around} (k : Bool) (hh : A.handled = none) (it l : Addr) (hne : l ≠ it) (items : Array Value) :
    Draws prog w A it [it, l] items.size (fun i v => items[i]? = some v) (fun i h => ItK h k it l i ∧ IsK h k l items) := by
  cases k with
  | false => exact Draws.list hh it l hne items
  | true => exact Draws.tuple hh it l hne items
section
variable {X : Cx} {pins : List (Addr × Obj)} {σ : L2.St} {H : Hp} {s : Shared}
theorem Inv.sqk (I : Inv X pins σ H s) {k : Bool} {a : Addr} {xs : List V} (h : SqK X.K H k a xs) : ∃ its : List Value, Vals xs its ∧ IsK s.heap k a its.toArray ∧ (∃ o, s.heap.get? a = some o ∧ ∀ vs, o.data ≠ .fields vs) := by
  cases k with
  | false =>
    obtain ⟨its, r, p, _⟩ := I.list h
    obtain ⟨o, n, e, _, _, d⟩ := id p
    exact ⟨its, r, p.isList, o, e, fun vs z => by rw [d] at z; cases z⟩
  | true =>
    obtain ⟨its, r, p, _⟩ := I.tuple h
    obtain ⟨o, e, _, n, d⟩ := id p
    exact ⟨its, r, p, o, e, fun vs z => by rw [d] at z; cases z⟩
theorem Inv.sqk_inj (I : Inv X pins σ H s) {k : Bool} {a : Addr} {xs ys : List V} (h : SqK X.K H k a xs) (h' : SqK X.K H k a ys) : xs = ys := by
  cases k with
  | false => exact I.list_inj h h'
  | true => exact I.tuple_inj h h'
/-- an iterator is not what it walks -/
theorem ItK.ne {h : Heap} {k : Bool} {it a : Addr} {i : Nat} (st : ItK h k it a i) (o : Obj) (e : h.get? a = some o) (d : ∀ vs, o.data ≠ .fields vs) : a ≠ it := by
  intro z
  subst z
  cases k with
  | false =>
    obtain ⟨o', e', _, d'⟩ := st
    rw [e] at e'; cases e'
    exact d _ d'
  | true =>
    obtain ⟨o', e', _, d'⟩ := st
    rw [e] at e'; cases e'
    exact d _ d'
end

/-! ### zip -/
def ItzK (K : PySem.W.Frag) (k1 k2 : Bool) (a b : Addr) : It :=
  ⟨fun i H => ∃ (xs ys : List V) (x y : V), SqK K H k1 a xs ∧ SqK K H k2 b ys ∧ xs[i]? = some x ∧ ys[i]? = some y,
    fun i H v H' => ∃ T x y, v = .ref T ∧ H T = none ∧ H' = upd H T (.tup [x, y]) ∧ (∀ xs, SqK K H k1 a xs → xs[i]? = some x) ∧ ∀ ys, SqK K H k2 b ys → ys[i]? = some y,
    fun i H => ∃ xs ys : List V, SqK K H k1 a xs ∧ SqK K H k2 b ys ∧ i ≤ xs.length ∧ i ≤ ys.length ∧ (xs.length = i ∨ ys.length = i)⟩
theorem turn_zipK {P : Program} {w : World} {K : PySem.W.Frag} {elts : List Expr} {kk : Nat} {tpos : Pos} {k1 k2 : Bool} {a b z TI TO i1 i2 : Addr} (D : ZipSep2 z TI TO i1 i2 [i1, a] [i2, b]) :
    Turn P w K (.Tuple elts kk tpos) (ItzK K k1 k2 a b) [z, TI, TO, i1, i2] z (fun i h => IsZip h z TI TO .none ∧ IsTupOf2 h TI (.ref i1) (.ref i2) ∧ (∃ x y, IsTupOf2 h TO x y) ∧ ItK h k1 i1 a i ∧ ItK h k2 i2 b i) where
  mem := by simp
  obj := fun i h st c hc => by
    obtain ⟨hz, hTI, ⟨x, y, hTO⟩, h1, h2⟩ := st
    have e' : c = z ∨ c = TI ∨ c = TO ∨ c = i1 ∨ c = i2 := by simpa using hc
    rcases e' with q | q | q | q | q
    · rw [q]; exact ⟨_, hz, fun v q => nomatch q⟩
    · rw [q]; exact ⟨_, hTI, fun v q => nomatch q⟩
    · rw [q]; exact ⟨_, hTO, fun v q => nomatch q⟩
    · rw [q]; exact h1.obj
    · rw [q]; exact h2.obj
  keep := fun i h h' st k => by
    obtain ⟨hz, hTI, ⟨x, y, hTO⟩, h1, h2⟩ := st
    exact ⟨k z (by simp) _ hz, k TI (by simp) _ hTI, ⟨x, y, k TO (by simp) _ hTO⟩, h1.at fun o q => k i1 (by simp) o q, h2.at fun o q => k i2 (by simp) o q⟩
  item := by
    intro X hP hw hK hc i pins s σ H E I hf st hg
    subst hP hw hK
    obtain ⟨hz, hTI, ⟨x0, y0, hTO⟩, h1, h2⟩ := st
    obtain ⟨xs, ys, x, y, hqx, hqy, hx, hy⟩ := hg
    obtain ⟨its, rv, p, o1, e1, d1⟩ := UL.Inv.sqk I hqx
    obtain ⟨its2, rv2, p2, o2, e2, d2⟩ := UL.Inv.sqk I hqy
    obtain ⟨u, hu, ru⟩ := rv.get hx
    obtain ⟨u2, hu2, ru2⟩ := rv2.get hy
    have hzl : z < s.heap.objs.size := Heap.lt_size hz
    have hh : X.A.in1.handled = none := I.ok.hd hc
    refine wpAny_pyNext_zipD2_item (i := i) D (drawsK k1 hh i1 a (h1.ne o1 e1 d1) its.toArray) (drawsK k2 hh i2 b (h2.ne o2 e2 d2) its2.toArray) hz hTI hTO ⟨h1, p⟩ ⟨h2, p2⟩
      (by have := (List.getElem?_eq_some_iff.mp hu).1; simpa using this) (by have := (List.getElem?_eq_some_iff.mp hu2).1; simpa using this) fun x1 x2 h' tk y1 y2 z' TO' st1 st2 hT hsz hk => ?_
    have ex1 : x1 = u := by
      have q : its.toArray[i]? = some u := by simpa using hu
      rw [q] at y1; exact (Option.some.inj y1).symm
    have ex2 : x2 = u2 := by
      have q : its2.toArray[i]? = some u2 := by simpa using hu2
      rw [q] at y2; exact (Option.some.inj y2).symm
    subst ex1; subst ex2
    refine ⟨_, rfl, wpAny_letOwnedTupleGo_zip (s := { s with heap := h', toks := tk }) z' fun h'' z'' sb => ?_⟩
    have hT2 : h''.get? s.heap.objs.size = some { cls := .type "tuple", data := .seq #[x1, x2] } := (sb.2 _ (Nat.ne_of_gt hzl)).trans hT
    have new : ObjOk X.prog X.w (upd H s.heap.objs.size (.tup [x, y])) h'' s.heap.objs.size (.tup [x, y]) :=
      ⟨by show 2 ≤ sizeLine; decide, [x1, x2], .cons ru (.cons ru2 .nil), ⟨_, hT2, rfl, _, rfl⟩⟩
    have I1 : Inv X pins σ (upd H s.heap.objs.size (.tup [x, y])) { s with heap := h'', toks := tk } :=
      I.turnedNew (t' := tk) (ch := [z, TI, TO, i1, i2]) (fun c o hb q => (sb.2 c (fun q' => hb (by simp [q']))).trans (hk c o (fun q' => hb (by simp [q'])) (fun q' => hb (by simp [q'])) (fun q' => hb (by simp [q'])) (fun q' => hb (by simp [q'])) q)) hf (Nat.le_refl _) new
    refine ⟨.ref s.heap.objs.size, _, I1, rfl, ⟨_, x, y, rfl, I.hok.fresh (Nat.le_refl _), rfl, fun l hl => by rw [UL.Inv.sqk_inj I hl hqx]; exact hx, fun l hl => by rw [UL.Inv.sqk_inj I hl hqy]; exact hy⟩, ⟨z'', ?_, ⟨x1, x2, ?_⟩, ?_, ?_⟩, fun c hcm => ?_⟩
    · exact (sb.2 _ D.TIz).trans (hk _ _ D.TIz D.TITO D.TIi1 D.TIi2 hTI)
    · exact (sb.2 _ D.TOz).trans TO'
    · exact st1.1.at fun o q => (sb.2 _ D.zi1.symm).trans q
    · exact st2.1.at fun o q => (sb.2 _ D.zi2.symm).trans q
    · have hlt : c < s.heap.objs.size := by
        have e' : c = z ∨ c = TI ∨ c = TO ∨ c = i1 ∨ c = i2 := by simpa using hcm
        rcases e' with q | q | q | q | q
        · rw [q]; exact hzl
        · rw [q]; exact Heap.lt_size hTI
        · rw [q]; exact Heap.lt_size hTO
        · rw [q]; obtain ⟨_, e1, _⟩ := h1.obj; exact Heap.lt_size e1
        · rw [q]; obtain ⟨_, e2, _⟩ := h2.obj; exact Heap.lt_size e2
      rw [upd_ne (Nat.ne_of_lt hlt)]
      exact (hf c hcm).1
  done := by
    intro X hP hw hK hc i pins s σ H E I hf st hg
    subst hP hw hK
    obtain ⟨hz, hTI, ⟨x0, y0, hTO⟩, h1, h2⟩ := st
    obtain ⟨xs, ys, hqx, hqy, l1, l2, hend⟩ := hg
    obtain ⟨its, rv, p, o1, e1, d1⟩ := UL.Inv.sqk I hqx
    obtain ⟨its2, rv2, p2, o2, e2, d2⟩ := UL.Inv.sqk I hqy
    have hh : X.A.in1.handled = none := I.ok.hd hc
    have m1 := rv.length
    have m2 := rv2.length
    exact wpAny_pyNext_zipD2_end (i := i) D (drawsK k1 hh i1 a (h1.ne o1 e1 d1) its.toArray) (drawsK k2 hh i2 b (h2.ne o2 e2 d2) its2.toArray) hz hTI hTO ⟨h1, p⟩ ⟨h2, p2⟩ (by simp; omega) (by simp; omega)
      (by rcases hend with q | q; exact .inl (by simp; omega); exact .inr (by simp; omega)) fun h' tk hk => ⟨rfl, I.turnedL (t' := tk) (ch := [z, TI, TO, i1, i2]) (fun c o hb q =>
      hk c o (fun q' => hb (by simp [q'])) (fun q' => hb (by simp [q'])) (fun q' => hb (by simp [q'])) (fun q' => hb (by simp [q'])) q) hf⟩
  self := fun A i s Q E st h => wpAny_pyIter_zip st.1 h
def iZipK (K : PySem.W.Frag) (ta : TA) : TI := fun σ H R => ta σ H fun vs H1 => ∃ k1 k2 a b xs ys, vs = [.ref a, .ref b] ∧ SqK K H1 k1 a xs ∧ SqK K H1 k2 b ys ∧ R (ItzK K k1 k2 a b) H1
theorem pi_zipK {X : Cx} {e e2 : Expr} {ta : TA} {p pos tpos : Pos} {elts : List Expr} {kk : Nat} (hg : Gl X "zip") (hm : X.mg "zip" = none) (ha : PA X [e, e2] ta)
    (hs : starEach [e, e2] X.env = (false, eval e X.env) :: starEach [e2] X.env) (hpl : (backTo pos (starEach [e2] X.env)).any (·.1) = false) :
    PI X (.Tuple elts kk tpos) (.Call (.Name "zip" p) [e, e2] [] pos) (iZipK X.K ta) := by
  refine ⟨fun pins s σ H R I h => ?_⟩
  refine PyProof.Rows.Call_ (ld_blt I hg hm PyProof.Rows.boot_zip (PyProof.Rows.callWith_type1 (thn (ha.run pos pins s σ H _ I h) fun us s1 ⟨vs, H1, I1, r1, q1⟩ => ?_) hs hpl))
  obtain ⟨k1, k2, a, b, xs, ys, ex, hqx, hqy, q⟩ := q1
  subst ex
  cases r1 with
  | cons r rr =>
    cases rr with
    | cons r' rr =>
      cases rr
      cases r
      cases r'
      obtain ⟨its, rv, p1, o1, e1, _⟩ := UL.Inv.sqk I1 hqx
      obtain ⟨its2, rv2, p2, o2, e2, _⟩ := UL.Inv.sqk I1 hqy
      have la : a < s1.heap.objs.size := Heap.lt_size e1
      have lb : b < s1.heap.objs.size := Heap.lt_size e2
      have sep : ZipSep2 (s1.heap.objs.size + 4) (s1.heap.objs.size + 2) (s1.heap.objs.size + 3) s1.heap.objs.size (s1.heap.objs.size + 1) [s1.heap.objs.size, a] [s1.heap.objs.size + 1, b] :=
        zip_sep2 (N := s1.heap.objs.size) (fp1 := [a]) (fp2 := [b]) (fun c hc => by
          have e : c = a := by simpa using hc
          rw [e]; exact la) (fun c hc => by
          have e : c = b := by simpa using hc
          rw [e]; exact lb)
      refine zip_begins2 (beginsK k1 a its.toArray) (beginsK k2 b its2.toArray) p1 p2 fun h' hz hTI hTO h1 h2 hsz hk => wpAny_pyIter_zip hz ?_
      have I2 : Inv X pins σ H1 { s1 with heap := h' } := I1.kept (t' := s1.toks) hk
      refine ⟨s1.heap.objs.size + 4, [s1.heap.objs.size + 4, s1.heap.objs.size + 2, s1.heap.objs.size + 3, s1.heap.objs.size, s1.heap.objs.size + 1], _, _, H1, rfl, I2,
        turn_zipK sep, ⟨hz, hTI, ⟨_, _, hTO⟩, ItK.new h1, ItK.new h2⟩, fun c hcm => ?_, q⟩
      have e' : c = s1.heap.objs.size + 4 ∨ c = s1.heap.objs.size + 2 ∨ c = s1.heap.objs.size + 3 ∨ c = s1.heap.objs.size ∨ c = s1.heap.objs.size + 1 := by simpa using hcm
      have hle : s1.heap.objs.size ≤ c := by
        rcases e' with z | z | z | z | z
        · rw [z]; exact Nat.le_add_right _ _
        · rw [z]; exact Nat.le_add_right _ _
        · rw [z]; exact Nat.le_add_right _ _
        · rw [z]; exact Nat.le_refl _
        · rw [z]; exact Nat.le_add_right _ _
      exact I1.fpOk hle (I1.hok.fresh hle)

/-! ### enumerate -/
theorem meets_enum_newB {v : Value} {o : Obj} {H : Heap → Prop} (B : Begins v o H) :
    Meets (Builtin.«enumerate.__new__» ⟨[.type "enumerate", v], []⟩) (fun _ R s => H s.heap ∧
      R (.ok (.ret (.ref (s.heap.push o).objs.size)))
        { s with heap := (s.heap.push o).push { cls := .type "enumerate", data := .fields #[.none, .bool false, .ref s.heap.objs.size, rawInt 0, .none, .none] } }) :=
  .of_wp fun prog w A R s h => by
    obtain ⟨hp, g, d, tk, os⟩ := s; obtain ⟨hl, h⟩ := h
    have hsub := sub_enumerate
    have hf := B.free
    wp_walk using B.iter prog w _ _ _ _ hl
    refine wpAny_stack_any fun st => wpAny_pure ?_
    split
    · rename_i c _ _ _ _ _
      cases (c == Value.type "enumerate")
      · wp_walk using B.iter prog w _ _ _ _ hl
        exact ⟨_, rfl, h⟩
      · wp_walk using B.iter prog w _ _ _ _ hl
        exact ⟨_, rfl, h⟩
    · wp_walk using B.iter prog w _ _ _ _ hl
      exact ⟨_, rfl, h⟩
theorem call_enumK {prog : Program} {w : World} {A : Around} {E : Value → Shared → Prop} {s : Shared} {v : Value} {o : Obj} {H : Heap → Prop} {Q : Value → Shared → Prop} (B : Begins v o H) (h1 : H s.heap)
    (h : ∀ h', IsEnum h' (s.heap.objs.size + 1) s.heap.objs.size 0 .none → h'.get? s.heap.objs.size = some o → h'.objs.size = s.heap.objs.size + 2 →
      (∀ b o, s.heap.get? b = some o → h'.get? b = some o) → Q (.ref (s.heap.objs.size + 1)) { s with heap := h' }) :
    wpAny (model prog w) A (call (.type "enumerate") [v]) Q E s := by
  refine callType_new F.called_enumerate (by decide) (F.typeCall_enumerate_1 _) (F.newCall_enumerate_1 _) (fun obj => F.args_object_init_2 obj _) F.entry_enumerate_new
    (meets_enum_newB B) ⟨h1, ?_⟩
  have hz : (s.heap.push o).objs.size = s.heap.objs.size + 1 := Heap.size_push ..
  show _ ∧ _
  rw [hz]
  have he : IsEnum ((s.heap.push o).push
      { cls := .type "enumerate", data := .fields #[.none, .bool false, .ref s.heap.objs.size, rawInt 0, .none, .none] }) (s.heap.objs.size + 1) s.heap.objs.size 0 .none := by
    have := Heap.get?_push_size (s.heap.push o)
      (o := { cls := .type "enumerate", data := .fields #[.none, .bool false, .ref s.heap.objs.size, rawInt 0, .none, .none] }) rfl
    rw [hz] at this; exact this
  refine ⟨⟨_, he, rfl⟩, h _ he (Heap.get?_push_of_some _ (Heap.get?_push_size _ B.free)) (by rw [Heap.size_push, hz]) fun b o x => Heap.get?_push_of_some _ (Heap.get?_push_of_some _ x)⟩
def IteK (K : PySem.W.Frag) (k1 : Bool) (a : Addr) : It :=
  ⟨fun i H => ∃ (xs : List V) (x : V), SqK K H k1 a xs ∧ xs[i]? = some x,
    fun i H v H' => ∃ T x, v = .ref T ∧ H T = none ∧ H' = upd H T (.tup [.int (i : Nat), x]) ∧ ∀ xs, SqK K H k1 a xs → xs[i]? = some x,
    fun i H => ∃ xs : List V, SqK K H k1 a xs ∧ xs.length = i⟩
theorem turn_enumK {P : Program} {w : World} {K : PySem.W.Frag} {elts : List Expr} {kk : Nat} {tpos : Pos} (k1 : Bool) (a e it : Addr) :
    Turn P w K (.Tuple elts kk tpos) (IteK K k1 a) [e, it] e (fun i h => (∃ old, IsEnum h e it ((i : Nat) : Int) old) ∧ ItK h k1 it a i ∧ e ≠ it) where
  mem := by simp
  obj := fun i h st b hb => by
    obtain ⟨⟨old, he⟩, hi, _⟩ := st
    have e' : b = e ∨ b = it := by simpa using hb
    rcases e' with z | z
    · rw [z]; exact ⟨_, he, fun v q => nomatch q⟩
    · rw [z]; exact hi.obj
  keep := fun i h h' st k => let ⟨⟨old, he⟩, hi, hne⟩ := st; ⟨⟨old, k e (by simp) _ he⟩, hi.at fun o q => k it (by simp) o q, hne⟩
  item := by
    intro X hP hw hK hc i pins s σ H E I hf st hg
    subst hP hw hK
    obtain ⟨⟨old, he⟩, hit, hne⟩ := st
    obtain ⟨xs, x, hq, hx⟩ := hg
    obtain ⟨its, rv, p, o1, e1, d1⟩ := UL.Inv.sqk I hq
    obtain ⟨u, hu, ru⟩ := rv.get hx
    have hel : e < s.heap.objs.size := Heap.lt_size he
    have hil : it < s.heap.objs.size := by obtain ⟨_, q, _⟩ := hit.obj; exact Heap.lt_size q
    have hea : e ≠ a := by
      intro z
      subst z
      rw [he] at e1; cases e1
      exact d1 _ rfl
    have hh : X.A.in1.handled = none := I.ok.hd hc
    refine wpAny_pyNext_enum_itemD (i := i) (drawsK k1 hh it a (hit.ne o1 e1 d1) its.toArray) he ⟨hit, p⟩ (by have := (List.getElem?_eq_some_iff.mp hu).1; simpa using this) hne (by simp [hne, hea]) fun x1 h' tk y1 ho st1 hT hsz hk => ?_
    have ex1 : x1 = u := by
      have q : its.toArray[i]? = some u := by simpa using hu
      rw [q] at y1; exact (Option.some.inj y1).symm
    subst ex1
    refine ⟨_, rfl, wpAny_letOwnedTupleGo_enum (s := { s with heap := h', toks := tk + 1 }) ho fun h'' he' sb => ?_⟩
    have hT2 : h''.get? s.heap.objs.size = some { cls := .type "tuple", data := .seq #[.int i tk, x1] } := (sb.2 _ (Nat.ne_of_gt hel)).trans hT
    have new : ObjOk X.prog X.w (upd H s.heap.objs.size (.tup [.int (i : Nat), x])) h'' s.heap.objs.size (.tup [.int (i : Nat), x]) :=
      ⟨by show 2 ≤ sizeLine; decide, [.int i tk, x1], .cons ⟨_, rfl⟩ (.cons ru .nil), ⟨_, hT2, rfl, _, rfl⟩⟩
    have I1 : Inv X pins σ (upd H s.heap.objs.size (.tup [.int (i : Nat), x])) { s with heap := h'', toks := tk + 1 } :=
      I.turnedNew (t' := tk + 1) (ch := [e, it]) (fun b ob hb q => (sb.2 b (fun z => hb (by simp [z]))).trans (hk b ob (fun z => hb (by simp [z])) (fun z => hb (by simp [z])) q)) hf (Nat.le_refl _) new
    refine ⟨.ref s.heap.objs.size, _, I1, rfl, ⟨_, x, rfl, I.hok.fresh (Nat.le_refl _), rfl, fun ys hy => by rw [UL.Inv.sqk_inj I hy hq]; exact hx⟩, ⟨⟨x1, ?_⟩, st1.1.at fun o q => (sb.2 it (Ne.symm hne)).trans q, hne⟩, fun b hb => ?_⟩
    · have e1 : ((i + 1 : Nat) : Int) = (i : Int) + 1 := by omega
      rw [e1]; exact he'
    · have hb' : b < s.heap.objs.size := by
        have e' : b = e ∨ b = it := by simpa using hb
        rcases e' with z | z
        · rw [z]; exact hel
        · rw [z]; exact hil
      rw [upd_ne (Nat.ne_of_lt hb')]
      exact (hf b hb).1
  done := by
    intro X hP hw hK hc i pins s σ H E I hf st hg
    subst hP hw hK
    obtain ⟨⟨old, he⟩, hit, hne⟩ := st
    obtain ⟨xs, hq, hx⟩ := hg
    obtain ⟨its, rv, p, o1, e1, d1⟩ := UL.Inv.sqk I hq
    obtain ⟨f0, f1, f2, f3, f4, f5⟩ := hf it (by simp)
    have hl := rv.length
    have hh : X.A.in1.handled = none := I.ok.hd hc
    have hi : i = its.toArray.size := by simp; omega
    subst hi
    exact wpAny_pyNext_enum_endD (drawsK k1 hh it a (hit.ne o1 e1 d1) its.toArray) he ⟨hit, p⟩ fun h' eb => ⟨rfl, I.turned (t' := s.toks) (fun b o hb q => eb b o hb q) f0 f1 f3 f4 f5⟩
  self := fun A i s Q E st h => let ⟨⟨_, he⟩, _⟩ := st; wpAny_pyIter_enum he h
def iEnumK (K : PySem.W.Frag) (ta : TA) : TI := fun σ H R => ta σ H fun vs H1 => ∃ k1 a xs, vs = [.ref a] ∧ SqK K H1 k1 a xs ∧ R (IteK K k1 a) H1
theorem pi_enumK {X : Cx} {e : Expr} {ta : TA} {p pos tpos : Pos} {elts : List Expr} {kk : Nat} (hg : Gl X "enumerate") (hm : X.mg "enumerate" = none) (ha : PA X [e] ta) (hs : starEach [e] X.env = [(false, eval e X.env)]) :
    PI X (.Tuple elts kk tpos) (.Call (.Name "enumerate" p) [e] [] pos) (iEnumK X.K ta) := by
  refine ⟨fun pins s σ H R I h => ?_⟩
  refine PyProof.Rows.Call_ (ld_blt I hg hm PyProof.Rows.boot_enumerate (PyProof.Rows.callWith_type1 (thn (ha.run pos pins s σ H _ I h) fun us s1 ⟨vs, H1, I1, r1, q1⟩ => ?_) hs rfl))
  obtain ⟨k1, a, xs, ex, hq, q⟩ := q1
  subst ex
  cases r1 with
  | cons r rr =>
    cases rr
    cases r
    obtain ⟨its, rv, p1, o1, e1, _⟩ := UL.Inv.sqk I1 hq
    refine call_enumK (beginsK k1 a its.toArray) p1 fun h' he hit hsz hk => wpAny_pyIter_enum he ?_
    have I2 : Inv X pins σ H1 { s1 with heap := h' } := I1.kept (t' := s1.toks) hk
    refine ⟨s1.heap.objs.size + 1, [s1.heap.objs.size + 1, s1.heap.objs.size], _, _, H1, rfl, I2, turn_enumK k1 a (s1.heap.objs.size + 1) s1.heap.objs.size, ⟨⟨.none, he⟩, ItK.new hit, Nat.succ_ne_self _⟩, fun b hb => ?_, q⟩
    have e' : b = s1.heap.objs.size + 1 ∨ b = s1.heap.objs.size := by simpa using hb
    have hle : s1.heap.objs.size ≤ b := by
      rcases e' with z | z
      · rw [z]; exact Nat.le_add_right _ _
      · rw [z]; exact Nat.le_refl _
    exact I1.fpOk hle (I1.hok.fresh hle)
end UL
set_option Elab.async false
set_option linter.all false
set_option autoImplicit false
set_option maxRecDepth 100000
set_option maxHeartbeats 4000000
/-! UL6: methods; trees of one's own, what they ask, how they fit the text: expressions. -/
namespace UL
open PySem PySem.Spec L2

/-! ### methods of built-in types -/
inductive Mth where
  | append | pop | popAt | extend | insert | split | join | lindex
  deriving DecidableEq
def Mth.T : Mth → String
  | .split => "str"
  | .join => "str"
  | _ => "list"
def Mth.nm : Mth → Str
  | .append => "append"
  | .pop => "pop"
  | .popAt => "pop"
  | .extend => "extend"
  | .insert => "insert"
  | .split => "split"
  | .join => "join"
  | .lindex => "index"
def Mth.id : Mth → String
  | .append => "list.append"
  | .pop => "list.pop"
  | .popAt => "list.pop"
  | .extend => "list.extend"
  | .insert => "list.insert"
  | .split => "str.split"
  | .join => "str.join"
  | .lindex => "list.index"
def uL (u : U) (G : UH) (k : Addr → List U → Prop) : Prop := match u with
  | .ref a => (match G a with
    | some (.lst us) => k a us
    | _ => False)
  | _ => False
theorem uL_of {K : PySem.W.Frag} {H : Hp} {G : UH} (hg : HR K G H) {u : U} {v : V} (r : RU K H u v) {k : Addr → List U → Prop} (h : uL u G k) :
    ∃ a us xs, v = .ref a ∧ u = .ref a ∧ G a = some (.lst us) ∧ H a = some (.lst xs) ∧ RUs K H us xs ∧ k a us := by
  unfold uL at h
  split at h
  · cases r
    split at h
    · rename_i e
      obtain ⟨xs, h1, r1⟩ := hg.lst e
      exact ⟨_, _, xs, rfl, rfl, e, h1, r1, h⟩
    · exact h.elim
  · exact h.elim
def Mth.fn : Mth → U → UFn
  | .append => fun x us G Q => uL x G fun a xs => match us with
    | [y] => xs.length < sizeLine ∧ Q .non (up G a (.lst (xs ++ [y])))
    | _ => False
  | .pop => fun x us G Q => uL x G fun a xs => match us with
    | [] => (match xs[xs.length - 1]? with
      | some y => Q y (up G a (.lst xs.dropLast))
      | none => False)
    | _ => False
  | .popAt => fun x us G Q => uL x G fun a xs => match us with
    | [.int i] => -(2 ^ 63) ≤ i ∧ i < 2 ^ 63 ∧ (match ixN xs.length i with
      | some k => (match xs[k]? with
        | some y => Q y (up G a (.lst (xs.eraseIdx k)))
        | none => False)
      | none => False)
    | _ => False
  | .extend => fun x us G Q => uL x G fun a xs => match us with
    | [y] => uL y G fun _ zs => xs.length + zs.length ≤ sizeLine ∧ Q .non (up G a (.lst (xs ++ zs)))
    | _ => False
  | .insert => fun x us G Q => uL x G fun a xs => match us with
    | [.int i, y] => xs.length < sizeLine ∧ 0 ≤ i ∧ i < 2 ^ 63 ∧ Q .non (up G a (.lst (xs.take i.toNat ++ [y] ++ xs.drop i.toNat)))
    | _ => False
  | .split => fun x us G Q => match x, us with
    | .str a, [.str b] => (b.length == 0) = false ∧ a.length + 2 ≤ sizeLine ∧ ∀ p, G p = none → Q (.ref p) (up G p (.lst ((Txt.split a b).map U.str)))
    | _, _ => False
  | .join => fun x us G Q => match x, us with
    | .str a, [y] => uL y G fun _ zs => (match strsOf zs with
      | some ys => (ys.map (·.length)).sum + ys.length * a.length ≤ 16777216 ∧ Q (.str (Txt.join a ys)) G
      | none => False)
    | _, _ => False
  | .lindex => fun x us G Q => uL x G fun _ xs => match us with
    | [y] => flatU y = true ∧ xs.all flatU = true ∧ ∃ (j : Nat) (z : U), xs[j]? = some z ∧ eqU z y = true ∧ (∀ (m : Nat) (z' : U), m < j → xs[m]? = some z' → eqU z' y = false) ∧ Q (.int (j : Nat)) G
    | _ => False
def mTy (T : String) (u : U) (G : UH) : Prop := match u with
  | .str _ => T = "str"
  | .ref a => (match G a with
    | some (.lst _) => T = "list"
    | some (.dK _) => T = "dict"
    | _ => False)
  | _ => False
section
variable {X : Cx}
theorem mTy_of {H : Hp} {G : UH} (hg : HR X.K G H) {u : U} {v : V} {T : String} (r : RU X.K H u v) (h : mTy T u G) : tyV X.K T v H := by
  unfold mTy at h
  split at h
  · cases r; exact h
  · cases r
    split at h
    · rename_i e
      obtain ⟨xs, h1, _⟩ := hg.lst e
      exact .inl ⟨h, xs, SqL.of h1⟩
    · rename_i e
      obtain ⟨xs, h1, _⟩ := hg _ _ e
      exact .inr (.inr (.inl ⟨h, .inl ⟨xs, h1⟩⟩))
    · exact h.elim
  · exact h.elim
theorem rus0 {K : PySem.W.Frag} {H : Hp} {xs : List V} (r : RUs K H [] xs) : xs = [] := by cases r; rfl
theorem Mth.ok (m : Mth) : MtR X m.id (cM X.K m.fn) := by
  intro pins s σ H x xs v us Q I rx rs h
  obtain ⟨u, ws, G, Q0, ru, rw', hg, h, k⟩ := h
  cases m with
  | append =>
    obtain ⟨a, ls, ys, rfl, rfl, e, h1, r1, h⟩ := uL_of hg ru h
    split at h
    · obtain ⟨y, rfl, q⟩ := rus1 rw'
      obtain ⟨e2, g⟩ := hg.setLst e (r1.append (.cons q .nil))
      exact mt_append pins s σ H _ _ v us Q I rx rs ⟨a, ys, y, rfl, rfl, h1, by rw [← r1.length]; exact h.1, k _ _ _ _ h.2 .non g e2⟩
    · exact h.elim
  | pop =>
    obtain ⟨a, ls, ys, rfl, rfl, e, h1, r1, h⟩ := uL_of hg ru h
    split at h
    · cases rus0 rw'
      split at h
      · rename_i y hy
        obtain ⟨z, hz, q⟩ := r1.get hy
        obtain ⟨e2, g⟩ := hg.setLst e r1.dropLast
        exact mt_pop pins s σ H _ _ v us Q I rx rs ⟨a, ys, z, rfl, rfl, h1, by rw [← r1.length]; exact hz, k _ _ _ _ h (RU.ext e2 q) g e2⟩
      · exact h.elim
    · exact h.elim
  | popAt =>
    obtain ⟨a, ls, ys, rfl, rfl, e, h1, r1, h⟩ := uL_of hg ru h
    split at h
    · obtain ⟨y, rfl, q⟩ := rus1 rw'
      cases q
      obtain ⟨b1, b2, h⟩ := h
      split at h
      · rename_i kk hk
        split at h
        · rename_i y hy
          obtain ⟨z, hz, q⟩ := r1.get hy
          obtain ⟨e2, g⟩ := hg.setLst e (r1.eraseIdx kk)
          exact mt_popAt pins s σ H _ _ v us Q I rx rs ⟨a, ys, _, kk, z, rfl, rfl, h1, b1, b2, by rw [← r1.length]; exact (ixN_seq hk).1, hz, k _ _ _ _ h (RU.ext e2 q) g e2⟩
        · exact h.elim
      · exact h.elim
    · exact h.elim
  | extend =>
    obtain ⟨a, ls, ys, rfl, rfl, e, h1, r1, h⟩ := uL_of hg ru h
    split at h
    · obtain ⟨y, rfl, q⟩ := rus1 rw'
      obtain ⟨b, ls2, ys2, rfl, rfl, e', h1', r1', h⟩ := uL_of hg q h
      obtain ⟨e2, g⟩ := hg.setLst e (r1.append r1')
      exact mt_extend pins s σ H _ _ v us Q I rx rs ⟨a, b, ys, ys2, rfl, rfl, h1, h1', by rw [← r1.length, ← r1'.length]; exact h.1, k _ _ _ _ h.2 .non g e2⟩
    · exact h.elim
  | insert =>
    obtain ⟨a, ls, ys, rfl, rfl, e, h1, r1, h⟩ := uL_of hg ru h
    split at h
    · rename_i i yy _
      obtain ⟨y, z, rfl, q1, q2⟩ := rus2 rw'
      cases q1
      obtain ⟨b1, b2, b3, h⟩ := h
      obtain ⟨e2, g⟩ := hg.setLst e (((r1.take i.toNat).append (.cons q2 .nil)).append (r1.drop i.toNat))
      exact mt_insert pins s σ H _ _ v us Q I rx rs ⟨a, ys, i, z, rfl, rfl, h1, by rw [← r1.length]; exact b1, b2, b3, k _ _ _ _ h .non g e2⟩
    · exact h.elim
  | split =>
    simp only [Mth.fn] at h
    split at h
    · cases ru
      obtain ⟨y, rfl, q⟩ := rus1 rw'
      cases q
      refine mt_split pins s σ H _ _ v us Q I rx rs ⟨_, _, rfl, rfl, h.1, h.2.1, fun p hp => ?_⟩
      obtain ⟨e, g⟩ := hg.newLst hp (RUs.of_strs _)
      exact k _ _ _ _ (h.2.2 p (hg.fresh hp)) (.ref p) g e
    · exact h.elim
  | join =>
    simp only [Mth.fn] at h
    split at h
    · cases ru
      obtain ⟨y, rfl, q⟩ := rus1 rw'
      obtain ⟨b, ls2, ys2, rfl, rfl, e', h1', r1', h⟩ := uL_of hg q h
      split at h
      · rename_i ss hs
        have e3 := strsOf_eq hs
        subst e3
        have e4 := RUs.strs r1'
        subst e4
        exact mt_join pins s σ H _ _ v us Q I rx rs ⟨_, b, ss, rfl, rfl, .inl (SqL.of h1'), h.1, k _ _ _ _ h.2 (.str _) hg .refl⟩
      · exact h.elim
    · exact h.elim
  | lindex =>
    obtain ⟨a, ls, ys, rfl, rfl, e, h1, r1, h⟩ := uL_of hg ru h
    split at h
    · rename_i y0
      obtain ⟨y, rfl, q⟩ := rus1 rw'
      obtain ⟨f1, f2, j, z, hz, e1, hno, h⟩ := h
      obtain ⟨z', hz', qz⟩ := r1.get hz
      have fz : ∀ {w : U} {m : Nat}, ls[m]? = some w → flatU w = true := fun {w m} hw => List.all_eq_true.mp f2 w (List.mem_of_getElem? hw)
      refine mt_index pins s σ H _ _ v us Q I rx rs ⟨a, ys, y, j, z', rfl, rfl, SqL.of h1, flat_of q f1, flats_of r1 f2, hz', by rw [eqU_of' qz q (fz hz) f1]; exact e1, fun m w hm hw => ?_, k _ _ _ _ h (.int _) hg .refl⟩
      obtain ⟨w', hw', qw⟩ := r1.get' hw
      rw [eqU_of' qw q (fz hw') f1]
      exact hno m w' hm hw'
    · exact h.elim
theorem Mth.pa (m : Mth) : PlainAttrs m.T := by
  cases m <;> first | exact PySem.F.plainAttrs_list | exact PySem.F.plainAttrs_str
theorem Mth.slot (m : Mth) : Slot m.T m.nm m.id := by
  cases m with
  | append => exact PySem.F.slot_list_append
  | pop => exact PySem.F.slot_list_pop
  | popAt => exact PySem.F.slot_list_pop
  | extend => exact PySem.F.slot_list_extend
  | insert => exact PySem.F.slot_list_insert
  | split => exact PySem.F.slot_str_split
  | join => exact PySem.F.slot_str_join
  | lindex => exact PySem.F.slot_list_index
theorem Mth.hty (m : Mth) : typeOf (.builtin m.id) = pure (.type "method_descriptor") := by
  cases m with
  | append => exact PySem.F.type_list_append
  | pop => exact PySem.F.type_list_pop
  | popAt => exact PySem.F.type_list_pop
  | extend => exact PySem.F.type_list_extend
  | insert => exact PySem.F.type_list_insert
  | split => exact PySem.F.type_str_split
  | join => exact PySem.F.type_str_join
  | lindex => exact PySem.F.type_list_index
end
end UL
set_option Elab.async false
set_option linter.all false
set_option autoImplicit false
set_option maxRecDepth 100000
set_option maxHeartbeats 4000000
/-! ULm: max(xs, default=d) of whole numbers. -/
namespace UL
open PySem PySem.Spec L2
def maxL (d : Int) : List Int → Int
  | [] => d
  | n :: ns => ns.foldl max n
theorem alike_ints (ns : List Int) : PySem.W.AlikeAll (ns.map PyData.int) := by
  refine ⟨fun x hx y hy => ?_, fun x hx => ?_⟩
  · obtain ⟨a, _, rfl⟩ := List.mem_map.mp hx
    obtain ⟨b, _, rfl⟩ := List.mem_map.mp hy
    rfl
  · obtain ⟨a, _, rfl⟩ := List.mem_map.mp hx
    intro z
    cases z
theorem depth_ints : ∀ ns : List Int, PyData.depthAll (ns.map PyData.int) = 0
  | [] => rfl
  | n :: ns => by simp [PyData.depthAll, PyData.depth, depth_ints ns]
section
variable {X : Cx}
theorem run_maxD (hc : X.calm = true) (hu : X.A.units + 64 < cLine) {pins : List (Addr × Obj)} {σ : L2.St} {H : Hp} {s : Shared} {Q : VK} {a : Addr} {ns : List Int} {d : Int} {t : Tok} (I : Inv X pins σ H s) (hs : SqL X.K H a (ns.map V.int)) (q : Q (.int (maxL d ns)) H) :
    wpAny (model X.prog X.w) X.A (call (.builtin "max") [.ref a] [(Str.ofString "default", .int d t)]) (EP X pins σ Q) X.xe s := by
  obtain ⟨its, rv, hl, _⟩ := I.list hs
  have hi := rv.ints
  refine PySem.W.max_list_default (vs := its.toArray) (xs := ns.map PyData.int) (as := []) (I.ok.hd hc) hl.isList (by simpa using PyProof.Rows.ints_readAll s.heap hi) (alike_ints ns) (by rw [depth_ints]; omega) (fun e h' tk hk => ?_) (fun y ys i v h' tk bs e hv r hk => ?_)
  · cases ns with
    | nil => exact ⟨.int d, H, I.kept hk, ⟨_, rfl⟩, q⟩
    | cons _ _ => cases e
  · cases ns with
    | nil => cases e
    | cons n ns =>
      rw [List.map_cons, List.cons.injEq] at e
      obtain ⟨rfl, rfl⟩ := e
      rw [PySem.W.maxD_ints] at r
      cases r
      exact ⟨.int _, H, I.kept hk, ⟨_, rfl⟩, q⟩
def tMaxD (te tc : TE) : TE := fun σ H Q => te σ H fun v H1 => tc σ H1 fun u H2 => ∃ (a : Addr) (ns : List Int) (d : Int), v = .ref a ∧ u = .int d ∧ SqL X.K H2 a (ns.map V.int) ∧ Q (.int (maxL d ns)) H2
theorem pe_maxD {x : Str} {p pos kp : Pos} {e c : Expr} {te tc : TE} (hc : X.calm = true) (hu : X.A.units + 64 < cLine) (hg : Gl X x) (hm : X.mg x = none) (hx : x = "max") (he : PE X e te) (hd : PE X c tc) (hst : starEach [e] X.env = (false, eval e X.env) :: starEach [] X.env) :
    PE X (.Call (.Name x p) [e] [⟨some (Str.ofString "default"), c, kp⟩] pos) (tMaxD (X := X) te tc) := by
  subst hx
  refine ⟨fun pins s σ H Q I h => ?_⟩
  refine wpAny_Call_Name_kw (ld_blt (u := .builtin "max") I hg hm (by decide +kernel) ?_ (by decide) (by decide))
  have ha := (pa_cons he pa_nil hst).run pos pins s σ H (fun vs H1 => match vs with
    | [v] => tc σ H1 fun u H2 => ∃ (a : Addr) (ns : List Int) (d : Int), v = .ref a ∧ u = .int d ∧ SqL X.K H2 a (ns.map V.int) ∧ Q (.int (maxL d ns)) H2
    | _ => False) I h
  refine PyProof.Rows.callWith_kw (e := e) (rest := []) (thn ha fun us s1 ⟨vs, H1, I1, r1, q1⟩ => ?_) (by rw [hst]; rfl) (by rw [hst]; rfl)
  cases vs with
  | nil => exact False.elim q1
  | cons v vs =>
    cases vs with
    | cons _ _ => exact False.elim q1
    | nil =>
      obtain ⟨u, rfl, ru⟩ := r1.one
      refine thn ((pk_cons (nm := some (Str.ofString "default")) (kpos := kp) hd pk_nil).run pos pins s1 σ H1 (fun zs H2 => match zs with
        | [z] => ∃ (a : Addr) (ns : List Int) (d : Int), v = .ref a ∧ z = .int d ∧ SqL X.K H2 a (ns.map V.int) ∧ Q (.int (maxL d ns)) H2
        | _ => False) I1 q1) fun ws s2 ⟨zs, H2, I2, r2, q2⟩ => ?_
      cases zs with
      | nil => exact False.elim q2
      | cons z zs =>
        cases zs with
        | cons _ _ => exact False.elim q2
        | nil =>
          obtain ⟨w2, rfl, rw2⟩ := r2.one
          obtain ⟨a, ns, d, rfl, rfl, hs, q3⟩ := q2
          cases ru
          obtain ⟨t, rfl⟩ := rw2
          exact run_maxD hc hu I2 hs q3
end
theorem maxD_sq {K : PySem.W.Frag} {H : Hp} {us : List U} {xs : List V} {ns : List Int} {a : Addr} (h : H a = some (.lst xs)) (r : RUs K H us xs) (e : intsOf us = some ns) : SqL K H a (ns.map V.int) := by
  have e3 := intsOf_eq e
  subst e3
  have e4 := RUs.ints r
  subst e4
  exact SqL.of h
/-! by values -/
def uMaxD (u d : U) (G : UH) (Q : UK) : Prop := match u, d with
  | .ref a, .int d => (match G a with
    | some (.lst us) => (match intsOf us with
      | some ns => Q (.int (maxL d ns)) G
      | none => False)
    | _ => False)
  | _, _ => False
end UL
set_option Elab.async false
set_option linter.all false
set_option autoImplicit false
set_option maxRecDepth 100000
set_option maxHeartbeats 4000000
/-! ULd: dicts that are made, and asked by get. -/
namespace UL
open PySem PySem.Spec L2
def putU (kvs : List (Key × U)) (k : Key) (v : U) : List (Key × U) :=
  if (kvs.any fun kv => decide (kv.1 = k)) = true then kvs.map (fun kv => if kv.1 = k then (kv.1, v) else kv) else kvs ++ [(k, v)]
theorem RKV.any {K : PySem.W.Frag} {H : Hp} (k : Key) : ∀ {kvs : List (Key × U)} {xs : List (Key × V)}, RKV K H kvs xs → (kvs.any fun kv => decide (kv.1 = k)) = (xs.any fun kv => decide (kv.1 = k)) := by
  intro kvs xs r
  unfold RKV at r
  induction r with
  | nil => rfl
  | cons h _ ih => simp only [List.any_cons, ih, h.1]
theorem RKV.put {K : PySem.W.Frag} {H : Hp} {k : Key} {u : U} {v : V} (q : RU K H u v) {kvs : List (Key × U)} {xs : List (Key × V)} (r : RKV K H kvs xs) : RKV K H (putU kvs k u) (putK xs k v) := by
  unfold putU putK
  rw [RKV.any k r]
  split
  · rename_i hh
    clear hh
    unfold RKV at *
    induction r with
    | nil => exact .nil
    | cons h _ ih =>
      refine .cons ?_ ih
      dsimp only
      rw [h.1]
      split
      · exact ⟨rfl, q⟩
      · exact h
  · rename_i hh
    clear hh
    unfold RKV at *
    induction r with
    | nil => exact .cons ⟨rfl, q⟩ .nil
    | cons h _ ih => exact .cons h ih
theorem RKV.length {K : PySem.W.Frag} {H : Hp} {kvs : List (Key × U)} {xs : List (Key × V)} (r : RKV K H kvs xs) : kvs.length = xs.length := by
  unfold RKV at r
  induction r with
  | nil => rfl
  | cons _ _ ih => simp [ih]
theorem HR.dK {K : PySem.W.Frag} {G : UH} {H : Hp} (r : HR K G H) {a : Addr} {kvs : List (Key × U)} (h : G a = some (.dK kvs)) : ∃ xs, H a = some (.dK xs) ∧ RKV K H kvs xs := r a _ h
theorem HR.newDk {K : PySem.W.Frag} {G : UH} {H : Hp} (r : HR K G H) {p : Addr} (h : H p = none) : Ext H (upd H p (.dK [])) ∧ HR K (up G p (.dK [])) (upd H p (.dK [])) := by
  have x : Ext H (upd H p (.dK [])) := .new h
  exact ⟨x, r.put x ⟨[], upd_same, .nil⟩⟩
theorem HR.setDk {K : PySem.W.Frag} {G : UH} {H : Hp} (r : HR K G H) {a : Addr} {kvs ws : List (Key × U)} {ys : List (Key × V)} (h : G a = some (.dK kvs)) (q : RKV K H ws ys) : Ext H (upd H a (.dK ys)) ∧ HR K (up G a (.dK ws)) (upd H a (.dK ys)) := by
  obtain ⟨xs, e, _⟩ := r.dK h
  have x : Ext H (upd H a (.dK ys)) := .wr e (fun _ z => by cases z) (fun _ _ z => by cases z)
  exact ⟨x, r.put x ⟨ys, upd_same, RKV.ext x q⟩⟩
/-- d.get(k, x) -/
def uDGet (x k d : U) (G : UH) (Q : UK) : Prop := match x with
  | .ref a => (match G a with
    | some (.dK kvs) => (match keyOf k with
      | some kk => Q ((lookK kvs kk).getD d) G
      | none => False)
    | _ => False)
  | _ => False
def isDk (x : U) (G : UH) : Prop := match x with
  | .ref a => (match G a with
    | some (.dK _) => True
    | _ => False)
  | _ => False
/-- {k: v} -/
def uDsp (p : Addr) (k v : U) (G : UH) (Q : UK) : Prop := G p = some (.dK []) ∧ (match keyOf k with
  | some kk => Q (.ref p) (up G p (.dK [(kk, v)]))
  | none => False)
end UL
set_option Elab.async false
set_option linter.all false
set_option autoImplicit false
set_option maxRecDepth 100000
set_option maxHeartbeats 4000000
/-! ULo: own objects: made, their fields, their methods; del xs[:k]. -/
namespace UL
open PySem PySem.Spec PyProof.Rows L2
def putFU (f : Str) (v : U) : List (Str × U) → List (Str × U)
  | [] => [(f, v)]
  | (g, x) :: r => if g = f then (g, v) :: r else (g, x) :: putFU f v r
section
variable {K : PySem.W.Frag} {G : UH} {H : Hp}
theorem RKV.putF {f : Str} {u : U} {v : V} (q : RU K H u v) {fs : List (Str × U)} {xs : List (Str × V)} (r : RKV K H fs xs) : RKV K H (putFU f u fs) (L2.putF f v xs) := by
  unfold RKV at *
  induction r with
  | nil => exact .cons ⟨rfl, q⟩ .nil
  | @cons p p' _ _ h t ih =>
    obtain ⟨g, a⟩ := p
    obtain ⟨g', b⟩ := p'
    obtain ⟨e, h⟩ := h
    cases (show g = g' from e)
    unfold putFU L2.putF
    by_cases c : g = f
    · rw [if_pos c, if_pos c]
      exact .cons ⟨rfl, q⟩ t
    · rw [if_neg c, if_neg c]
      exact .cons ⟨rfl, h⟩ ih
theorem RKV.len {κ : Type} {fs : List (κ × U)} {xs : List (κ × V)} (r : RKV K H fs xs) : fs.length = xs.length := by
  unfold RKV at r
  induction r with
  | nil => rfl
  | cons _ _ ih => simp [ih]
theorem RKV.look {f : Str} {fs : List (Str × U)} {xs : List (Str × V)} (r : RKV K H fs xs) : (fs.lookup f = none ∧ xs.lookup f = none) ∨ ∃ u v, fs.lookup f = some u ∧ xs.lookup f = some v ∧ RU K H u v := by
  unfold RKV at r
  induction r with
  | nil => exact .inl ⟨rfl, rfl⟩
  | @cons p p' _ _ h t ih =>
    obtain ⟨g, a⟩ := p
    obtain ⟨g', b⟩ := p'
    obtain ⟨e, h⟩ := h
    cases (show g = g' from e)
    simp only [List.lookup_cons]
    cases c : (f == g) with
    | true => exact .inr ⟨a, b, rfl, rfl, h⟩
    | false => exact ih
def uObj (u : U) (G : UH) (k : Addr → Str → List Str → List (Str × U) → Prop) : Prop := match u with
  | .ref a => (match G a with
    | some (.ins x ns fs) => k a x ns fs
    | _ => False)
  | _ => False
theorem uObj_ref {a : Addr} {x : Str} {ns : List Str} {fs : List (Str × U)} {k : Addr → Str → List Str → List (Str × U) → Prop} (h : G a = some (.ins x ns fs)) : uObj (.ref a) G k = k a x ns fs := by
  unfold uObj
  simp only [h]
theorem uObj_of (hg : HR K G H) {u : U} {v : V} (r : RU K H u v) {k : Addr → Str → List Str → List (Str × U) → Prop} (h : uObj u G k) :
    ∃ a x ns fs dx xs, v = .ref a ∧ u = .ref a ∧ G a = some (.ins x ns fs) ∧ H a = some (.ins (He.ga K x) dx xs) ∧ RKV K H fs xs ∧ Cls K (He.ga K x) ∧ (∀ f ∈ ns, NoAttr K (He.ga K x) f) ∧ k a x ns fs := by
  unfold uObj at h
  split at h
  · cases r
    split at h
    · rename_i e
      obtain ⟨dx, xs, h1, r1, c, n⟩ := hg _ _ e
      exact ⟨_, _, _, _, dx, xs, rfl, rfl, e, h1, r1, c, n, h⟩
    · exact h.elim
  · exact h.elim
def uFld (f : Str) (u : U) (G : UH) (Q : UK) : Prop := uObj u G fun _ _ ns fs => ns.contains f = true ∧ match fs.lookup f with
  | some v => Q v G
  | none => False
/-- o.f = v -/
def uSetF (f : Str) (o v : U) (G : UH) (Q : UH → Prop) : Prop := uObj o G fun a x ns fs => ns.contains f = true ∧ fs.length < 1000 ∧ Q (up G a (.ins x ns (putFU f v fs)))
/-- del o[:k] -/
def uDelTo (o k : U) (G : UH) (Q : UH → Prop) : Prop := match o, k with
  | .ref a, .int i => (match G a with
    | some (.lst us) => 0 ≤ i ∧ i ≤ us.length ∧ Q (up G a (.lst (us.drop i.toNat)))
    | _ => False)
  | _, _ => False
theorem HR.setIns (r : HR K G H) {a : Addr} {x : Str} {ns : List Str} {fs gs : List (Str × U)} {dx : Addr} {xs ys : List (Str × V)} (h : G a = some (.ins x ns fs)) (e : H a = some (.ins (He.ga K x) dx xs)) (q : RKV K H gs ys) :
    Ext H (upd H a (.ins (He.ga K x) dx ys)) ∧ HR K (up G a (.ins x ns gs)) (upd H a (.ins (He.ga K x) dx ys)) := by
  obtain ⟨_, _, e', _, c, n⟩ := r _ _ h
  have z : Ext H (upd H a (.ins (He.ga K x) dx ys)) := .wr e (fun _ z => by cases z) (fun _ _ z => by cases z)
  exact ⟨z, r.put z ⟨dx, ys, upd_same, RKV.ext z q, c, n⟩⟩
theorem HR.newIns (r : HR K G H) {a dx : Addr} {x : Str} {ns : List Str} (c : Cls K (He.ga K x)) (n : ∀ f ∈ ns, NoAttr K (He.ga K x) f) (ha : H a = none) (hd : H dx = none) (ne : dx ≠ a) :
    Ext H (upd (upd H dx (.own a)) a (.ins (He.ga K x) dx [])) ∧ HR K (up G a (.ins x ns [])) (upd (upd H dx (.own a)) a (.ins (He.ga K x) dx [])) := by
  have e1 : Ext H (upd H dx (.own a)) := .new hd
  have r1 := r.side e1 (r.fresh hd)
  have ha' : upd H dx (.own a) a = none := by rw [upd_ne ne.symm]; exact ha
  have e2 : Ext (upd H dx (.own a)) (upd (upd H dx (.own a)) a (.ins (He.ga K x) dx [])) := .new ha'
  exact ⟨e1.trans e2, r1.put e2 ⟨dx, [], upd_same, .nil, c, n⟩⟩
end
/-! ### calls with what is raised told at the caller's slots -/
section
variable {X : Cx} {k : Nat} {f C : Addr} {fd : FuncData} {ps : List Str} {sp : Sp} {E : L2.St → XK} {x m : Str} {p pos apos : Pos} {e o : Expr} {es : List Expr} {ta : TE} {t : TA}
def tMethSD (C : Addr) (m : Str) (sp : Sp) (E : L2.St → XK) (ta : TE) (t : TA) : TE := fun σ H Q => ta σ H fun x H1 => ∃ a dx fs, x = .ref a ∧ H1 a = some (.ins C dx fs) ∧ fs.lookup m = none ∧ t σ H1 fun vs H2 => sp (x :: vs) H2 Q (E σ)
def tMakeSD (C : Addr) (sp : Sp) (E : L2.St → XK) (t : TA) : TE := fun σ H Q => t σ H fun vs H1 => ∀ x dx, H1 x = none → H1 dx = none → dx ≠ x →
  sp (.ref x :: vs) (upd (upd H1 dx (.own x)) x (.ins C dx [])) (fun v H2 => v = .non ∧ Q (.ref x) H2) (E σ)
theorem run_makeSD {pins : List (Addr × Obj)} {σ : L2.St} {H : Hp} {s : Shared} {Q : VK} {us : List Value} {vs : List V} (M : Mk X.K C f) (F : FnOk X.prog X.w X.K X.mg X.base (L2N.CX X.prog X.w) k f fd ps sp) (hr : Room (k + 1) X.A) (hb : Binds X.K fd ps [])
    (hx : PassesAt (L2N.CX X.prog X.w) X σ (E σ)) (I : Inv X pins σ H s) (r : Vals vs us)
    (h : ∀ x dx, H x = none → H dx = none → dx ≠ x → sp (.ref x :: vs) (upd (upd H dx (.own x)) x (.ins C dx [])) (fun v H2 => v = .non ∧ Q (.ref x) H2) (E σ)) :
    wpAny (model X.prog X.w) X.A (call (.ref C) us) (EP X pins σ Q) X.xe s := by
  have hq := h (s.heap.objs.size + 1) s.heap.objs.size (I.hok.fresh (Nat.le_succ _)) (I.hok.fresh (Nat.le_refl _)) (Nat.ne_of_lt (Nat.lt_succ_self _))
  have I2 := Inv.made (C := C) I
  have r2 : Vals (V.ref (s.heap.objs.size + 1) :: vs) (Value.ref (s.heap.objs.size + 1) :: us) := .cons rfl r
  have hl : ((Value.ref (s.heap.objs.size + 1) :: us) ++ []).length = ps.length := by
    rw [List.append_nil, ← r2.length]
    exact F.len _ _ _ _ hq
  have hbb := hb _ (Value.ref (s.heap.objs.size + 1) :: us) I2.kIn hl
  rw [List.append_nil] at hbb
  refine wpAny_call (make_map (f := f) I.kIn M.makes M.init (beq_iff_eq.mp M.fn) (codeAny_mono (F.run _ X.stack _ _ ⟨Value.ref (s.heap.objs.size + 1) :: us, []⟩ (Value.ref (s.heap.objs.size + 1) :: us) _ _ (E σ) (hr.make C us [])
    (I2.env0.make C us []) hbb r2 hq) fun r s' hq' => ?_))
  cases r with
  | error e => exact hx pins _ _ e s' I2 hq'
  | ok fl =>
    cases fl with
    | ret u =>
      obtain ⟨v, H', I3, rv, ev, q3⟩ := I2.after hq'
      subst ev
      exact ⟨rv, ⟨V.ref (s.heap.objs.size + 1), H', I3, rfl, q3⟩⟩
    | next => exact False.elim hq'
    | brk => exact False.elim hq'
    | cont => exact False.elim hq'
theorem pe_makeSD (M : Mk X.K C f) (F : FnOk X.prog X.w X.K X.mg X.base (L2N.CX X.prog X.w) k f fd ps sp) (hr : Room (k + 1) X.A) (hg : Gl X x) (hm : X.mg x = some (.ref C)) (hb : Binds X.K fd ps []) (hx : ∀ σ, PassesAt (L2N.CX X.prog X.w) X σ (E σ))
    (ha : PA X (e :: es) t) (hdb : (x == ("__debug__" : Str)) = false) (he : starEach (e :: es) X.env = (false, eval e X.env) :: starEach es X.env) (hpl : (backTo pos (starEach es X.env)).any (·.1) = false) :
    PE X (.Call (.Name x p) (e :: es) [] pos) (tMakeSD C sp E t) := by
  refine ⟨fun pins s σ H Q I h => ?_⟩
  refine wpAny_Call_Name_kw (ld_glob I hg hm ?_ hdb)
  refine PySem.W.callWith_K (h₀ := X.base) I.ok.mod.kin M.kp (thn (ha.run pos pins s σ H _ I h) fun us s1 ⟨vs, H1, I1, r, q⟩ => ⟨I1.kIn, ?_⟩) he hpl
  exact run_makeSD M F hr hb (hx σ) I1 r q
theorem pe_makeSD0 (M : Mk X.K C f) (F : FnOk X.prog X.w X.K X.mg X.base (L2N.CX X.prog X.w) k f fd ps sp) (hr : Room (k + 1) X.A) (hg : Gl X x) (hm : X.mg x = some (.ref C)) (hb : Binds X.K fd ps []) (hx : ∀ σ, PassesAt (L2N.CX X.prog X.w) X σ (E σ))
    (hdb : (x == ("__debug__" : Str)) = false) : PE X (.Call (.Name x p) [] [] pos) (tMakeSD C sp E tNil) := by
  refine ⟨fun pins s σ H Q I h => ?_⟩
  refine wpAny_Call_Name_kw (ld_glob I hg hm ?_ hdb)
  exact PySem.W.callWith_K0 I.kIn M.kp (run_makeSD (us := []) M F hr hb (hx σ) I .nil h)
theorem pe_methSD {pl : Sem Bool} (he : PE X o ta) (c : Cls X.K C) (hm : Meth X.K C m f) (F : FnOk X.prog X.w X.K X.mg X.base (L2N.CX X.prog X.w) k f fd ps sp) (hr : Room k X.A) (hb : Binds X.K fd ps []) (hx : ∀ σ, PassesAt (L2N.CX X.prog X.w) X σ (E σ)) (ha : PA X (e :: es) t)
    (hst : starEach (e :: es) X.env = (false, eval e X.env) :: starEach es X.env) (hpl : (backTo pos (starEach es X.env)).any (·.1) = false)
    (ht : eval (.Call (.Attribute o m apos) (e :: es) [] pos) X.env = (do
      let ov ← eval o X.env
      standAt apos.atName
      let (f, first) ← holding [ov] (getMethod ov m pl)
      callWith pos f first (backTo pos (starEach (e :: es) X.env)) (backToKw pos (keywordEach [] X.env)))) :
    PE X (.Call (.Attribute o m apos) (e :: es) [] pos) (tMethSD C m sp E ta t) := by
  refine ⟨fun pins s σ H Q I h => ?_⟩
  refine PySem.W.methodCall_KW (pl := pl) (thn (he.run pins s σ H _ I h) fun u s1 ⟨x, H1, I1, rx, a, dx, fs, ex, ea, l, q⟩ => ?_) ht
  subst ex
  obtain rfl : u = Value.ref a := rx
  refine getmeth_ok I1 ea c hm l ?_
  refine PySem.W.callWith_K (first := [.ref a]) (h₀ := X.base) I.ok.mod.kin hm.kp (thn (ha.run pos pins s1 σ H1 _ I1 q) fun us s2 ⟨vs, H2, I2, r, q2⟩ => ⟨I2.kIn, ?_⟩) hst hpl
  exact run_fnSD (us := .ref a :: us) (vs := .ref a :: vs) F hr hb .nil (hx σ) I2 (.cons rfl r) (by rw [List.append_nil]; exact q2)
theorem pe_methSD0 {pl : Sem Bool} (he : PE X o ta) (c : Cls X.K C) (hm : Meth X.K C m f) (F : FnOk X.prog X.w X.K X.mg X.base (L2N.CX X.prog X.w) k f fd ps sp) (hr : Room k X.A) (hb : Binds X.K fd ps []) (hx : ∀ σ, PassesAt (L2N.CX X.prog X.w) X σ (E σ))
    (ht : eval (.Call (.Attribute o m apos) [] [] pos) X.env = (do
      let ov ← eval o X.env
      standAt apos.atName
      let (f, first) ← holding [ov] (getMethod ov m pl)
      callWith pos f first (backTo pos (starEach [] X.env)) (backToKw pos (keywordEach [] X.env)))) :
    PE X (.Call (.Attribute o m apos) [] [] pos) (tMethSD C m sp E ta tNil) := by
  refine ⟨fun pins s σ H Q I h => ?_⟩
  refine PySem.W.methodCall_KW (pl := pl) (thn (he.run pins s σ H _ I h) fun u s1 ⟨x, H1, I1, rx, a, dx, fs, ex, ea, l, q⟩ => ?_) ht
  subst ex
  obtain rfl : u = Value.ref a := rx
  refine getmeth_ok I1 ea c hm l ?_
  exact PySem.W.callWith_K0 (first := [.ref a]) I1.kIn hm.kp (run_fnSD (us := [.ref a]) (vs := [.ref a]) F hr hb .nil (hx σ) I1 (.cons rfl .nil) q)
end
/-- the tree of a method call -/
theorem meth_tree {o : Expr} {m : Str} {apos pos : Pos} {args : List Expr} {env : Env} (hb : attributeBase o m env (eval o env) = eval o env)
    (hfew : methodCallForm (args.length + 0) (backTo pos (starEach args env)) (backToKw pos (keywordEach [] env)) = true) (hline : (apos.endLine == pos.line) = true) :
    eval (.Call (.Attribute o m apos) args [] pos) env = (do
      let ov ← eval o env
      standAt apos.atName
      let (f, first) ← holding [ov] (getMethod ov m (do return (← importBound o env).getD true))
      callWith pos f first (backTo pos (starEach args env)) (backToKw pos (keywordEach [] env))) := by
  refine mcall_of hb fun ov => ?_
  unfold methodCall
  have hfew' : methodCallForm (args.length + ([] : List Keyword).length) (backTo pos (starEach args env)) (backToKw pos (keywordEach [] env)) = true := hfew
  rw [hfew']
  unfold methodCallPos
  simp only [Bool.not_true, Bool.false_or, hline, if_true, pure_bind, calleeOf]
/-! ### del xs[:k] -/
section
variable {prog : Program} {w : World} {A : Around} {E : Value → Shared → Prop} {s : Shared}
theorem drop_fm (sel : Value × Nat → Bool) (c : Nat) (h : ∀ p, sel p = decide (p.2 < c)) (its : List Value) : ((its.toArray.toList.zipIdx.filterMap fun p => if sel p = true then none else some p.1).toArray) = (its.drop c).toArray := by
  congr 1
  have : ∀ (its : List Value) (n : Nat), ((its.zipIdx n).filterMap fun p => if sel p = true then none else some p.1) = its.drop (c - n) := by
    intro its
    induction its with
    | nil => intro n; simp
    | cons x t ih =>
      intro n
      rw [List.zipIdx_cons, List.filterMap_cons]
      dsimp only
      rw [h (x, n), ih (n + 1)]
      dsimp only
      by_cases q : n < c
      · rw [decide_eq_true q, if_pos rfl]
        have : c - n = (c - (n + 1)) + 1 := by omega
        rw [this]
        rfl
      · rw [decide_eq_false q, if_neg Bool.false_ne_true]
        have e1 : c - n = 0 := by omega
        have e2 : c - (n + 1) = 0 := by omega
        rw [e1, e2]
        rfl
  exact this its 0
theorem bounds_to {c n : Nat} (hc : c ≤ n) : sliceBounds none (some (c : Int)) none n = (0, (c : Int), 1) := by
  simp only [sliceBounds, Option.getD_none]
  have h2 : ¬ ((c : Int) < 0) := by omega
  simp only [h2, if_false, show (1 : Int) > 0 by decide, if_true]
  congr 2
  omega
theorem sel_to (c k : Nat) : (if (1 : Int) > 0 then (decide ((0 : Int) ≤ (k : Int)) && decide ((k : Int) < (c : Int)) && (((k : Int) - 0) % 1 == 0)) else (decide ((c : Int) < (k : Int)) && decide ((k : Int) ≤ 0) && ((0 - (k : Int)) % (-1) == 0))) = decide (k < c) := by
  rw [if_pos (by decide)]
  have h1 : decide ((0 : Int) ≤ (k : Int)) = true := decide_eq_true (by omega)
  have h2 : (((k : Int) - 0) % 1 == 0) = true := by
    rw [Int.emod_one]; rfl
  rw [h1, h2, Bool.true_and, Bool.and_true]
  rw [Bool.eq_iff_iff]
  simp
/-- list.__delitem__ with a slice [:c] -/
theorem delItem_to {l sl : Addr} {its : List Value} {n : Nat} {vu : Value} {c : Nat} {Q : Unit → Shared → Prop}
    (e : s.heap.get? l = some { cls := .type "list", data := .seq its.toArray n }) (hs : s.heap.IsSliceOf sl .none vu .none) (pu : IsPart vu (some (c : Int))) (hc : c ≤ its.length) (hsz : its.length ≤ sizeLine)
    (h : ∀ g : Array Value → Array Value, g its.toArray = (its.drop c).toArray → Q () { s with heap := s.heap.update l (Obj.mapSeq g) }) :
    wpAny (model prog w) A (delItem (.ref l) (.ref sl)) Q E s := by
  have hl : s.heap.IsList l its.toArray := PySem.IsL.isList e
  obtain ⟨os, hos, hcs, hds⟩ := id hs
  have hTs : s.TypeIs (.ref sl) "slice" := ⟨os, hos, hcs⟩
  have hstep : ¬ ((rawPart none == rawInt 0) = true) := Bool.false_ne_true
  unfold delItem
  try with_reducible refine wpAny_holding ?_
  first | refine wpAny_bind (wpAny_pure ?_) | skip
  refine wpAny_bind (wpAny_sequenceKey hl.typeIs (by decide) ?_)
  refine wpAny_bind (wpAny_callSpecial?_slot (name := Str.ofString "__delitem__") hl.typeIs F.slot_list_delitem
    (wpAny_call_entry F.slot_list_delitem hl.typeIs F.entry_list_delitem ?_ (F.args_list_delitem_2 _ _)))
  show wpAny _ _ (Builtin.List.listSubscript? (.ref sl) >>= _) _ _ s
  refine wpAny_bind ?_
  unfold Builtin.List.listSubscript?
  refine wpAny_bind (wpAny_specialOf hTs slice_no_index ?_)
  simp only [Option.isNone_none, if_true]
  refine wpAny_pure ?_
  show wpAny _ _ (typeOf (.ref sl) >>= _) _ _ s
  refine wpAny_bind (wpAny_typeOf hTs ?_)
  first
    | rw [if_neg (by decide)]
    | refine PySem.W.KFB.if_not (by decide) ?_
  rw [listSliceParts_eq]
  refine wpAny_bind (wpAny_bind (wpAny_field hos hds (x := .none) rfl (wpAny_bind (wpAny_listPart .none ?_))))
  rw [if_neg hstep]
  refine wpAny_bind (wpAny_field hos hds (x := .none) rfl (wpAny_bind (wpAny_listPart .none ?_)))
  refine wpAny_bind (wpAny_field hos hds (x := vu) rfl (wpAny_bind (wpAny_listPart pu (wpAny_pure ?_))))
  unfold Builtin.List.listItems
  refine wpAny_bind (wpAny_bind (wpAny_seqItems e rfl (wpAny_pure ?_)))
  refine wpAny_bind (wpAny_of_eq ((sliceIndices_raw none (some (c : Int)) none its.toArray.size (by simp)).trans (congrArg (pure : Int × Int × Int → Sem (Int × Int × Int)) (bounds_to (by rw [List.size_toArray]; exact hc)))) ?_)
  refine wpAny_bind (wpAny_rule ?_)
  unfold Builtin.List.listUpdate
  refine wpAny_bind (wpAny_updateSeq (hz := by rw [List.size_toArray]; exact hsz) (_hz' := ?hz) e rfl ?hq)
  case hz =>
    refine Nat.le_trans (Nat.le_of_eq (congrArg Array.size (drop_fm _ c (fun p => ?hs) its))) ?_
    case hs => exact sel_to c p.2
    rw [List.size_toArray, List.length_drop]
    omega
  case hq =>
    refine wpAny_bind (wpAny_letGo ?_)
    first
      | refine wpAny_bind (wpAny_pure (wpAny_pure ⟨.none, rfl, wpAny_pure (h _ ?_)⟩))
      | refine wpAny_pure ⟨.none, rfl, wpAny_pure (h _ ?_)⟩
    exact drop_fm _ c (fun p => sel_to c p.2) its
end
section
variable {X : Cx}
theorem del_to {pins : List (Addr × Obj)} {s : Shared} {σ : L2.St} {H : Hp} {l sl : Addr} {xs : List V} {c : Int} {vu : Value} {Q : Unit → Shared → Prop} (I : Inv X pins σ H s)
    (hH : H l = some (.lst xs)) (hs : s.heap.IsSliceOf sl .none vu .none) (rc : RelV (.int c) vu) (h0 : 0 ≤ c) (hc : c ≤ xs.length)
    (h : ∀ s', Inv X pins σ (upd H l (.lst (xs.drop c.toNat))) s' → Q () s') :
    wpAny (model X.prog X.w) X.A (delItem (.ref l) (.ref sl)) Q X.xe s := by
  obtain ⟨tc, rfl⟩ := rc
  obtain ⟨z, its, n, r, hl, e⟩ := I.lstM hH
  obtain ⟨c', rfl⟩ := Int.eq_ofNat_of_zero_le h0
  simp only [Int.toNat_natCast] at h
  refine delItem_to (c := c') e hs (.int _ _) (by omega) (by omega) fun g hg => h _ ?_
  refine I.lset (its' := its.drop c') (t' := s.toks) hH e hg (r.drop _) ?_
  rw [List.length_drop]
  omega
def sDelTo (to tc : TE) : TS := fun D σ H => to σ H fun x H1 => tc σ H1 fun y H2 => ∃ (l : Addr) (xs : List V) (c : Int), x = .ref l ∧ y = .int c ∧ H2 l = some (.lst xs) ∧ 0 ≤ c ∧ c ≤ xs.length ∧ D.nx σ (upd H2 l (.lst (xs.drop c.toNat)))
theorem ps_delTo {o c : Expr} {to tc : TE} {tpos p2 pos : Pos} (ho : PE X o to) (hc : PE X c tc) : PS X (.Delete [.Subscript o (.Slice none (some c) none p2) tpos] pos) (sDelTo to tc) := by
  refine ⟨fun pins s σ H D I h => ?_⟩
  refine wpAny_Delete (wpAny_deleteEach_cons (wpAny_delete_Subscript (thn (ho.run pins s σ H _ I h) fun u s1 ⟨x, H1, I1, rx, q1⟩ => ?_)))
  refine wpAny_Slice ?_
  rw [evalPart_none]
  refine wpAny_pure ?_
  rw [evalPart_some]
  refine thn (hc.run pins s1 σ H1 _ I1 q1) fun iv s2 ⟨y, H2, I2, ry, q2⟩ => ?_
  refine wpAny_pure ?_
  obtain ⟨l, xs, c, ex, ey, hH, h1, h2, q2⟩ := q2
  subst ex
  subst ey
  cases (show u = Value.ref l from rx)
  have I4 : Inv X pins σ H2 { s2 with heap := s2.heap.push { cls := .type "slice", data := .fields #[.none, iv, .none] } } := I2.kept (t' := s2.toks) fun b ob q => Heap.get?_push_of_some _ q
  exact del_to I4 hH (Heap.IsSliceOf.new ..) ry h1 h2 fun s3 I3 => wpAny_deleteEach_nil ⟨σ, _, I3, q2⟩
end
end UL
set_option Elab.async false
set_option linter.all false
set_option autoImplicit false
set_option maxRecDepth 100000
set_option maxHeartbeats 4000000
/-! UL7: trees of one's own for expressions: what they ask (tr), how they fit the text (chk), soundness. -/
namespace UL
open PySem PySem.Spec L2

mutual
inductive Tg
  | nm (i : Nat)
  | tup (ts : Tgs)
inductive Tgs
  | nil
  | cons (t : Tg) (ts : Tgs)
end
mutual
inductive Ex
  | var (i : Nat) | int (i : Int) | bl (b : Bool) | non | str (x : Str) | gl (i : Nat) | ty (n : String)
  | bin (op : Operator) (a b : Ex) | neg (a : Ex) | not (a : Ex)
  | cmp (op : CmpOp) (a b : Ex) | chain (o1 o2 : CmpOp) (a b c : Ex)
  | and (a b : Ex) | or (a b : Ex) | ife (c a b : Ex)
  | tup (es : Exs) | lst (es : Exs)
  | call (f : Nat) (es : Exs) | blt (b : Blt) (es : Exs) | mth (m : Mth) (o : Ex) (es : Exs)
  | ix (o i : Ex) | sl (o : Ex) (lo hi : Exo) | stp (o c : Ex) | maxd (e c : Ex) | dnew | dsp (k v : Ex) | dget (o k d : Ex) | dc (k v : Ex) (tg : Tg) (it : Ito) (c : Exo) | fld (o : Ex) (f : Str) | xf (o : Ex) (f : Str) | xi (o : Ex) (x : Str) | fmt (e : Ex) | jn (es : Exs) | om (c m : Str) (j : Nat) (o : Ex) (es : Exs)
  | lc (elt : Ex) (tg : Tg) (it : Ito) (c : Exo)
  | lc2 (elt : Ex) (tg : Tg) (it : Ito) (c : Exo) (tg1 : Tg) (it1 : Ito) (c1 : Exo)
inductive Exs
  | nil
  | cons (e : Ex) (es : Exs)
inductive Exo
  | no
  | yes (e : Ex)
inductive Ito
  | rng1 (a : Ex) | rng2 (a b : Ex) | rng3 (a b c : Ex) | val (e : Ex) | enum (e : Ex) | zip (a b : Ex)
end

/-! ### what is raised; a def's promise -/
abbrev UXn := Nat × List U
abbrev UW := UXn → USt → UH → Prop
abbrev USp := List U → UH → UK → (UXn → UH → Prop) → Prop
structure Tab where
  fns : List Str
  gls : List Str
  xcs : List (Str × List Str)
  hot : Bool := false
/-- what is known of the exception that is handled -/
structure XcI where
  a : Addr
  dx : Addr
  fs : List Str
  kin : Str → Option Bool
structure Gam where
  fn : Nat → USp
  gl : Nat → U
  hf : Nat → USp := fun _ _ _ _ _ => False
  xc : Option XcI := none
def XnR (K : PySem.W.Frag) (mg : Str → Option Value) (tb : Tab) (xn : UXn) (cls : Value) (d : Option Addr) (G : UH) (H : Hp) : Prop :=
  ∃ (x : Str) (fs : List Str) (C dx : Addr) (vs : List V), tb.xcs[xn.1]? = some (x, fs) ∧ mg x = some (.ref C) ∧ cls = .ref C ∧ d = some dx ∧ H dx = some (.xd (fs.zip vs)) ∧ fs.length = vs.length ∧ RUs K H xn.2 vs ∧ G dx = none
def cW (K : PySem.W.Frag) (mg : Str → Option Value) (tb : Tab) (W : UW) : WX := fun cls d σ H => ∃ xn s G, SR K H s σ ∧ HR K G H ∧ XnR K mg tb xn cls d G H ∧ W xn s G
def cSp (K : PySem.W.Frag) (mg : Str → Option Value) (tb : Tab) (sp : USp) : Sp := fun vs H Q E => ∃ us G Q0 E0, RUs K H us vs ∧ HR K G H ∧ sp us G Q0 E0 ∧
  (∀ u G' v H', Q0 u G' → RU K H' u v → HR K G' H' → Ext H H' → Q v H') ∧ ∀ xn G' cls d H', E0 xn G' → XnR K mg tb xn cls d G' H' → HR K G' H' → Ext H H' → E cls d H'
def bltNames : List Str := ["len", "abs", "max", "min", "int", "str", "ord", "sum", "sorted", "tuple", "list", "all", "any", "divmod", "isinstance", "range", "enumerate", "zip", "bool", "dict", "NoneType", "reversed", "set"]
def visB (sc : Scope) (x : Str) : Bool := decide (sc.names.lookup x = some .local) || decide (sc.names.lookup x = some .cell) || decide (sc.names.lookup x = some .free)
def locB (sc : Scope) (x : Str) : Bool := decide (sc.names.lookup x = some .local) || decide (sc.names.lookup x = some .cell)
def glB (sc : Scope) (x : Str) : Bool := decide (sc.names.lookup x = some .globalImplicit)
/-- the scope as the text has it, and as it runs -/
structure ScOk (X : Cx) (sc : Scope) : Prop where
  vis : ∀ x, visB sc x = true → Vis X.env.scope x
  loc : ∀ x, locB sc x = true → Loc X.env.scope x ∧ (X.fn x = true ∨ X.env.scope.names.lookup x = some .local)
  gl : ∀ x, glB sc x = true → Gl X x
  cf : ∀ x, (sc.names.lookup x = some .cell ∨ sc.names.lookup x = some .free) → (X.env.scope.names.lookup x = some .cell ∨ X.env.scope.names.lookup x = some .free)
/-- a method's name: class, point, name -/
def splL : List Nat → Option (List Nat × List Nat)
  | [] => none
  | c :: r => if c = 46 then some ([], r) else (splL r).map fun p => (c :: p.1, p.2)
def spl (x : Str) : Option (Str × Str) := (splL x.cps.toList).map fun p => (⟨p.1.toArray⟩, ⟨p.2.toArray⟩)
def FnA (X : Cx) (x : Str) (sp : Sp) : Prop := ∃ (k : Nat) (f : Addr) (fd : FuncData) (ps : List Str), X.mg x = some (.ref f) ∧ PySem.W.keepIn X.K (.ref f) = true ∧ Room k X.A ∧ Binds X.K fd ps [] ∧ FnOk X.prog X.w X.K X.mg X.base (L2N.CX X.prog X.w) k f fd ps sp
def MkA (X : Cx) (x : Str) (sp : Sp) : Prop := ∃ (k : Nat) (f : Addr) (fd : FuncData) (ps : List Str) (spI : Sp), X.mg x = some (.ref (He.ga X.K x)) ∧ Mk X.K (He.ga X.K x) f ∧ Room (k + 1) X.A ∧ Binds X.K fd ps [] ∧ FnOk X.prog X.w X.K X.mg X.base (L2N.CX X.prog X.w) k f fd ps spI ∧
  ∀ vs H Q E, sp vs H Q E → ∀ a dx, H a = none → H dx = none → dx ≠ a → spI (.ref a :: vs) (upd (upd H dx (.own a)) a (.ins (He.ga X.K x) dx [])) (fun v H2 => v = .non ∧ Q (.ref a) H2) E
def MtA (X : Cx) (c m : Str) (sp : Sp) : Prop := ∃ (k : Nat) (f : Addr) (fd : FuncData) (ps : List Str), Cls X.K (He.ga X.K c) ∧ Meth X.K (He.ga X.K c) m f ∧ Room k X.A ∧ Binds X.K fd ps [] ∧ FnOk X.prog X.w X.K X.mg X.base (L2N.CX X.prog X.w) k f fd ps sp
/-- it may be called while an exception is handled -/
def FnAH (X : Cx) (x : Str) (sp : Sp) : Prop := ∃ (k : Nat) (f : Addr) (fd : FuncData) (ps : List Str), X.mg x = some (.ref f) ∧ PySem.W.keepIn X.K (.ref f) = true ∧ L2H.RoomH k X.A ∧ Binds X.K fd ps [] ∧ L2H.FnH X.prog X.w X.K X.mg X.base (L2N.CX X.prog X.w) k f fd ps sp
structure FnAvailH (X : Cx) (x : Str) (sp : Sp) : Prop where
  ex : FnAH X x sp
  db : (x == ("__debug__" : Str)) = false
/-- an exception class of the text, what is to be known -/
structure XcCls (K : PySem.W.Frag) (C : Addr) (fs : List Str) : Prop where
  ga : PySem.W.findIn K (.ref C) "__getattribute__" = some (some (.builtin "BaseException.__getattribute__"))
  gg : PySem.W.findIn K (.ref C) "__getattr__" = some none
  exC : PySem.W.subIn K (.ref C) (.type "BaseException") = some true
  hdC : PySem.W.hasDictIn K C = true
  noN : ∀ f ∈ fs, PySem.W.findIn K (.ref C) f = some none
/-- what isinstance(e, c) asks of e's class -/
structure XcIs (K : PySem.W.Frag) (D : Addr) : Prop where
  ha : PySem.W.findIn K (.ref D) "__class__" = some (some (.builtin "object.__class__"))
  hn : PySem.W.specialIn K (.builtin "object.__class__") "__get__" = some (some (.builtin "getset_descriptor.__get__"))
  ht : PySem.W.takesIn K (.builtin "object.__class__") = some true
  hm : PySem.W.mroIn K D (.type "object") = some true
/-- the value of a class's name -/
def XcVal (X : Cx) (x : Str) (cv : Value) : Prop := (x == ("__debug__" : Str)) = false ∧ (X.mg x = some cv ∧ (∃ C, cv = .ref C) ∨ (x = "ValueError" ∧ X.mg x = none ∧ cv = .type "ValueError"))
def XcIn (X : Cx) (c : XcI) : Prop := ∃ (oe : Obj) (C : Addr), (c.a, oe) ∈ X.pn ∧ Zc (.ref C) (some c.dx) oe ∧ (∃ vs, oe.data = .fields vs) ∧ XcCls X.K C c.fs ∧
  ∀ x b, c.kin x = some b → XcIs X.K C ∧ ∃ cv, XcVal X x cv ∧ PySem.W.kitOne X.K (.ref C) cv = some b
structure FnAvail (X : Cx) (x : Str) (sp : Sp) : Prop where
  ex : (spl x = none ∧ FnA X x sp) ∨ (spl x = none ∧ MkA X x sp) ∨ (∃ c m, spl x = some (c, m) ∧ MtA X c m sp)
  db : (x == ("__debug__" : Str)) = false
structure CtxOk (X : Cx) (sc : Scope) (tb : Tab) (Γ : Gam) : Prop where
  sco : ScOk X sc
  nd : X.N.Nodup
  calm : tb.hot = false → X.calm = true
  hu : X.A.units + 64 < cLine
  fns : tb.hot = false → ∀ i x, tb.fns[i]? = some x → FnAvail X x (cSp X.K X.mg tb (Γ.fn i))
  hot : tb.hot = true → L2H.HotC X
  fnh : tb.hot = true → ∀ i x, tb.fns[i]? = some x → FnAvailH X x (cSp X.K X.mg tb (Γ.fn i))
  xc : ∀ c, Γ.xc = some c → tb.hot = true ∧ XcIn X c
  gls : ∀ i x, tb.gls[i]? = some x → ∃ w v, X.mg x = some w ∧ RelV v w ∧ (∀ H, RU X.K H (Γ.gl i) v) ∧ (x == ("__debug__" : Str)) = false
  blt : ∀ x ∈ bltNames, X.mg x = none

/-! ### what a tree asks -/
mutual
def trG : Tg → U → USt → UH → (USt → UH → Prop) → Prop
  | .nm i => fun u s G Q => Q (setS s i (some u)) G
  | .tup ts => fun u s G Q => match u with
    | .tup us => us.length = lenG ts ∧ trGs ts us s G Q
    | .ref a => (match G a with
      | some (.lst us) => us.length = lenG ts ∧ trGs ts us s G Q
      | _ => False)
    | _ => False
def trGs : Tgs → List U → USt → UH → (USt → UH → Prop) → Prop
  | .nil => fun us s G Q => us = [] ∧ Q s G
  | .cons t ts => fun us s G Q => match us with
    | u :: us => trG t u s G fun s1 G1 => trGs ts us s1 G1 Q
    | [] => False
def lenG : Tgs → Nat
  | .nil => 0
  | .cons _ ts => lenG ts + 1
end
def rangeU (lo c : Int) : Nat → List U
  | 0 => []
  | n + 1 => .int lo :: rangeU (lo + c) c n
def enumU (i : Nat) : List U → List U
  | [] => []
  | u :: us => .tup [.int (i : Int), u] :: enumU (i + 1) us
def zipU : List U → List U → List U
  | u :: us, w :: ws => .tup [u, w] :: zipU us ws
  | _, _ => []
abbrev Deps := List (Addr × List U)
def depsOk (G : UH) : Deps → Prop
  | [] => True
  | d :: ds => G d.1 = some (.lst d.2) ∧ depsOk G ds
def seqOf (u : U) (G : UH) (k : Deps → List U → Prop) : Prop := match u with
  | .tup us => k [] us
  | .rol us => k [] us
  | .ref a => (match G a with
    | some (.lst us) => k [(a, us)] us
    | _ => False)
  | _ => False
/-- the length of a range -/
def rlen (i j c : Int) : Nat := ((j - i + c - 1) / c).toNat
def small62 (i : Int) : Prop := -(2 ^ 60) ≤ i ∧ i < 2 ^ 60
/-- a comprehension's turns -/
def lcU (ds : Deps) (p : Addr) (g : U → (USt → UH → Prop) → UH → Prop) (tt : USt → UH → (Bool → UH → Prop) → Prop) (te : USt → UH → UK → Prop) (Q : UK) : List U → List U → UH → Prop
  | [], acc, G => depsOk G ds ∧ G p = some (.lst acc) ∧ Q (.ref p) G
  | y :: ys, acc, G => depsOk G ds ∧ G p = some (.lst acc) ∧ g y (fun s1 G1 => tt s1 G1 fun b G2 => if b = true then te s1 G2 fun u G3 => G3 p = some (.lst acc) ∧ acc.length < sizeLine ∧
      (∃ G4, Le G4 (up G3 p (.lst (acc ++ [u]))) ∧ lcU ds p g tt te Q ys (acc ++ [u]) G4) else ∃ G4, Le G4 G2 ∧ lcU ds p g tt te Q ys acc G4) G
/-- the turns of an inner loop: the list goes on -/
def lcK (ds : Deps) (p : Addr) (g : U → (USt → UH → Prop) → UH → Prop) (tt : USt → UH → (Bool → UH → Prop) → Prop) (te : USt → UH → UK → Prop) (K : List U → UH → Prop) : List U → List U → UH → Prop
  | [], acc, G => depsOk G ds ∧ G p = some (.lst acc) ∧ K acc G
  | y :: ys, acc, G => depsOk G ds ∧ G p = some (.lst acc) ∧ g y (fun s1 G1 => tt s1 G1 fun b G2 => if b = true then te s1 G2 fun u G3 => G3 p = some (.lst acc) ∧ acc.length < sizeLine ∧
      (∃ G4, Le G4 (up G3 p (.lst (acc ++ [u]))) ∧ lcK ds p g tt te K ys (acc ++ [u]) G4) else ∃ G4, Le G4 G2 ∧ lcK ds p g tt te K ys acc G4) G
def lc2U (ds : Deps) (p : Addr) (g : U → (USt → UH → Prop) → UH → Prop) (tt : USt → UH → (Bool → UH → Prop) → Prop) (inner : USt → UH → List U → (List U → UH → Prop) → Prop) (Q : UK) : List U → List U → UH → Prop
  | [], acc, G => depsOk G ds ∧ G p = some (.lst acc) ∧ Q (.ref p) G
  | y :: ys, acc, G => depsOk G ds ∧ G p = some (.lst acc) ∧ g y (fun s1 G1 => tt s1 G1 fun b G2 => if b = true then inner s1 G2 acc (fun acc' G3 => ∃ G4, Le G4 G3 ∧ lc2U ds p g tt inner Q ys acc' G4)
      else ∃ G4, Le G4 G2 ∧ lc2U ds p g tt inner Q ys acc G4) G
/-- a dict comprehension's turns -/
def dcU (ds : Deps) (p : Addr) (g : U → (USt → UH → Prop) → UH → Prop) (tt : USt → UH → (Bool → UH → Prop) → Prop) (tk tv : USt → UH → UK → Prop) (Q : UK) : List U → List (Key × U) → UH → Prop
  | [], acc, G => depsOk G ds ∧ G p = some (.dK acc) ∧ Q (.ref p) G
  | y :: ys, acc, G => depsOk G ds ∧ G p = some (.dK acc) ∧ g y (fun s1 G1 => tt s1 G1 fun b G2 => if b = true then tk s1 G2 fun ku G3 => tv s1 G3 fun u G4 => G4 p = some (.dK acc) ∧ acc.length < sizeLine ∧ (∃ kk, keyOf ku = some kk ∧
      (∃ G5, Le G5 (up G4 p (.dK (putU acc kk u))) ∧ dcU ds p g tt tk tv Q ys (putU acc kk u) G5)) else ∃ G4, Le G4 G2 ∧ dcU ds p g tt tk tv Q ys acc G4) G
mutual
def slotsG : Tg → List Nat
  | .nm i => [i]
  | .tup ts => slotsGs ts
def slotsGs : Tgs → List Nat
  | .nil => []
  | .cons t ts => slotsG t ++ slotsGs ts
end
def wipeU (s : USt) : List Nat → USt
  | [] => s
  | v :: vs => setS (wipeU s vs) v none
/-- {x} -/
def uFmt (x : U) (G : UH) (Q : UK) : Prop := match x with
  | .str y => y.length ≤ sizeLine ∧ Q (.str y) G
  | .int i => i.natAbs.log2 < 1920 ∧ Q (.str (toString i)) G
  | _ => False
/-- a field of the exception that is handled -/
def uXf (c : Option XcI) (f : Str) (x : U) (G : UH) (Q : UK) : Prop := match c with
  | some c => x = .ref c.a ∧ c.fs.contains f = true ∧ (match G c.dx with
    | some (.xd fs) => (match fs.lookup f with
      | some u => Q u G
      | none => False)
    | _ => False)
  | none => False
/-- is it of this class? -/
def uXi (c : Option XcI) (y : Str) (x : U) (G : UH) (Q : UK) : Prop := match c with
  | some c => x = .ref c.a ∧ (∃ fs, G c.dx = some (.xd fs)) ∧ (match c.kin y with
    | some b => Q (.bl b) G
    | none => False)
  | none => False
/-- a value whose truth is asked when it is there -/
def pl (t : UT) : UT × UTT := (t, fun s G Q => t s G fun x G1 => uTru x G1 Q)
mutual
def trX (Γ : Gam) (W : UW) : Ex → UT × UTT
  | .var i => pl (uVar i)
  | .int i => pl (uC (.int i))
  | .bl b => pl (uC (.bl b))
  | .non => pl (uC .non)
  | .str x => pl (uC (.str x))
  | .gl i => pl (uC (Γ.gl i))
  | .ty n => pl (uC (.ty n))
  | .bin op a b => pl (uBin (uOp op) (trX Γ W a).1 (trX Γ W b).1)
  | .neg a => pl (uUn uNeg (trX Γ W a).1)
  | .not a => (fun s G Q => (trX Γ W a).1 s G fun x G1 => uTru x G1 fun b G2 => Q (.bl (!b)) G2, fun s G Q => (trX Γ W a).2 s G fun b G1 => Q (!b) G1)
  | .cmp op a b => (uBin (uCmp op) (trX Γ W a).1 (trX Γ W b).1, fun s G Q => (trX Γ W a).1 s G fun x G1 => (trX Γ W b).1 s G1 fun y G2 => uCmp op x y G2 fun z G3 => match z with
    | .bl k => Q k G3
    | _ => False)
  | .chain o1 o2 a b c => (fun s G Q => (trX Γ W a).1 s G fun x G1 => (trX Γ W b).1 s G1 fun y G2 => uCmp o1 x y G2 fun z G3 => match z with
    | .bl k => if k = true then (trX Γ W c).1 s G3 fun w G4 => uCmp o2 y w G4 Q else Q (.bl false) G3
    | _ => False, fun s G Q => (trX Γ W a).1 s G fun x G1 => (trX Γ W b).1 s G1 fun y G2 => uCmp o1 x y G2 fun z G3 => match z with
    | .bl k => if k = true then (trX Γ W c).1 s G3 fun w G4 => uCmp o2 y w G4 fun z2 G5 => (match z2 with
        | .bl k2 => Q k2 G5
        | _ => False) else Q false G3
    | _ => False)
  | .and a b => (fun s G Q => (trX Γ W a).1 s G fun x G1 => uTru x G1 fun k G2 => if k = true then (trX Γ W b).1 s G2 Q else Q x G2,
    fun s G Q => (trX Γ W a).2 s G fun k G1 => if k = true then (trX Γ W b).2 s G1 Q else Q false G1)
  | .or a b => (fun s G Q => (trX Γ W a).1 s G fun x G1 => uTru x G1 fun k G2 => if k = true then Q x G2 else (trX Γ W b).1 s G2 Q,
    fun s G Q => (trX Γ W a).2 s G fun k G1 => if k = true then Q true G1 else (trX Γ W b).2 s G1 Q)
  | .ife c a b => (fun s G Q => (trX Γ W c).2 s G fun k G1 => if k = true then (trX Γ W a).1 s G1 Q else (trX Γ W b).1 s G1 Q, fun _ _ _ => False)
  | .tup es => pl fun s G Q => trA Γ W es s G fun us G1 => us.length ≤ sizeLine ∧ Q (.tup us) G1
  | .lst es => pl fun s G Q => trA Γ W es s G fun us G1 => us.length ≤ sizeLine ∧ ∀ p, G1 p = none → Q (.ref p) (up G1 p (.lst us))
  | .call f es => pl fun s G Q => trA Γ W es s G fun us G1 => Γ.fn f us G1 Q (fun xn G2 => W xn s G2)
  | .blt b es => pl fun s G Q => trA Γ W es s G fun us G1 => b.fn us G1 Q
  | .mth m o es => pl fun s G Q => (trX Γ W o).1 s G fun x G1 => mTy m.T x G1 ∧ trA Γ W es s G1 fun us G2 => m.fn x us G2 Q
  | .ix o i => pl (uBin uIx (trX Γ W o).1 (trX Γ W i).1)
  | .sl o lo hi => pl fun s G Q => (trX Γ W o).1 s G fun x G1 => trO Γ W lo s G1 fun l G2 => trO Γ W hi s G2 fun h G3 => uSl x l h G3 Q
  | .stp o c => pl (uBin uStp (trX Γ W o).1 (trX Γ W c).1)
  | .maxd e c => pl fun s G Q => (trX Γ W e).1 s G fun x G1 => (trX Γ W c).1 s G1 fun d G2 => uMaxD x d G2 Q
  | .lc2 elt tg it c tg1 it1 c1 => pl fun s G Q => trI Γ W it s G fun ds ys G1 => ∀ p, G1 p = none →
      lc2U ds p (fun y k G2 => trG tg y (wipeU s (slotsG tg ++ slotsG tg1)) G2 k) (trC Γ (fun _ _ _ => False) c)
        (fun s1 G2 acc K => trI Γ (fun _ _ _ => False) it1 s1 G2 fun ds1 zs G3 => lcK ds1 p (fun z k G4 => trG tg1 z (wipeU s1 (slotsG tg1)) G4 k) (trC Γ (fun _ _ _ => False) c1) (trX Γ (fun _ _ _ => False) elt).1 K zs acc G3) Q ys [] (up G1 p (.lst []))
  | .dnew => pl fun _ G Q => ∀ p, G p = none → Q (.ref p) (up G p (.dK []))
  | .dsp k v => pl fun s G Q => ∀ p, G p = none → (trX Γ W k).1 s (up G p (.dK [])) fun x G1 => (trX Γ W v).1 s G1 fun y G2 => uDsp p x y G2 Q
  | .dget o k d => pl fun s G Q => (trX Γ W o).1 s G fun x G1 => isDk x G1 ∧ (trX Γ W k).1 s G1 fun y G2 => (trX Γ W d).1 s G2 fun z G3 => uDGet x y z G3 Q
  | .dc k v tg it c => pl fun s G Q => trI Γ W it s G fun ds ys G1 => ∀ p, G1 p = none →
      dcU ds p (fun y k G2 => trG tg y (wipeU s (slotsG tg)) G2 k) (trC Γ (fun _ _ _ => False) c) (trX Γ (fun _ _ _ => False) k).1 (trX Γ (fun _ _ _ => False) v).1 Q ys [] (up G1 p (.dK []))
  | .fld o f => pl fun s G Q => (trX Γ W o).1 s G fun x G1 => uFld f x G1 Q
  | .fmt e => pl fun s G Q => (trX Γ W e).1 s G fun x G1 => uFmt x G1 Q
  | .jn es => pl fun s G Q => trJ Γ W es Str.empty s G fun x G1 => Q (.str x) G1
  | .xf o f => pl fun s G Q => Γ.xc.isSome = true ∧ (trX Γ W o).1 s G fun x G1 => uXf Γ.xc f x G1 Q
  | .xi o y => pl fun s G Q => (Γ.xc.bind fun c => c.kin y).isSome = true ∧ (trX Γ W o).1 s G fun x G1 => uXi Γ.xc y x G1 Q
  | .om c m j o es => pl fun s G Q => (trX Γ W o).1 s G fun x G1 => uObj x G1 fun _ y _ fs => y = c ∧ fs.lookup m = none ∧ trA Γ W es s G1 fun us G2 => Γ.fn j (x :: us) G2 Q (fun xn G3 => W xn s G3)
  | .lc elt tg it c => pl fun s G Q => trI Γ W it s G fun ds ys G1 => ∀ p, G1 p = none →
      lcU ds p (fun y k G2 => trG tg y (wipeU s (slotsG tg)) G2 k) (trC Γ (fun _ _ _ => False) c) (trX Γ (fun _ _ _ => False) elt).1 Q ys [] (up G1 p (.lst []))
def trA (Γ : Gam) (W : UW) : Exs → UTA
  | .nil => fun _ G Q => Q [] G
  | .cons e es => fun s G Q => (trX Γ W e).1 s G fun u G1 => trA Γ W es s G1 fun us G2 => Q (u :: us) G2
def trJ (Γ : Gam) (W : UW) : Exs → Str → USt → UH → (Str → UH → Prop) → Prop
  | .nil => fun acc _ G Q => Q acc G
  | .cons e es => fun acc s G Q => (trX Γ W e).1 s G fun u G1 => match u with
    | .str y => (acc ++ y).length ≤ sizeLine ∧ trJ Γ W es (acc ++ y) s G1 Q
    | _ => False
def trO (Γ : Gam) (W : UW) : Exo → USt → UH → (Option Int → UH → Prop) → Prop
  | .no => fun _ G Q => Q none G
  | .yes e => fun s G Q => (trX Γ W e).1 s G fun u G1 => match u with
    | .int i => Q (some i) G1
    | _ => False
def trC (Γ : Gam) (W : UW) : Exo → UTT
  | .no => fun _ G Q => Q true G
  | .yes e => (trX Γ W e).2
def trI (Γ : Gam) (W : UW) : Ito → USt → UH → (Deps → List U → UH → Prop) → Prop
  | .rng1 a => fun s G R => (trX Γ W a).1 s G fun x G1 => match x with
    | .int j => small62 j ∧ R [] (rangeU 0 1 j.toNat) G1
    | _ => False
  | .rng2 a b => fun s G R => (trX Γ W a).1 s G fun x G1 => (trX Γ W b).1 s G1 fun y G2 => match x, y with
    | .int i, .int j => small62 i ∧ small62 j ∧ R [] (rangeU i 1 (j - i).toNat) G2
    | _, _ => False
  | .rng3 a b c => fun s G R => (trX Γ W a).1 s G fun x G1 => (trX Γ W b).1 s G1 fun y G2 => (trX Γ W c).1 s G2 fun z G3 => match x, y, z with
    | .int i, .int j, .int c => small62 i ∧ small62 j ∧ 0 < c ∧ c < 1073741824 ∧ R [] (rangeU i c (rlen i j c)) G3
    | _, _, _ => False
  | .val e => fun s G R => (trX Γ W e).1 s G fun x G1 => match x with
    | .str z => R [] (z.cps.toList.map fun c => U.str ⟨#[c]⟩) G1
    | x => seqOf x G1 fun ds us => R ds us G1
  | .enum e => fun s G R => (trX Γ W e).1 s G fun x G1 => seqOf x G1 fun ds us => R ds (enumU 0 us) G1
  | .zip a b => fun s G R => (trX Γ W a).1 s G fun x G1 => (trX Γ W b).1 s G1 fun y G2 => seqOf x G2 fun ds us => seqOf y G2 fun es ws => R (ds ++ es) (zipU us ws) G2
end
def trE (Γ : Gam) (W : UW) (e : Ex) : UT := (trX Γ W e).1
def trT (Γ : Gam) (W : UW) (e : Ex) : UTT := (trX Γ W e).2
example {Γ : Gam} {W : UW} {i : Nat} : trE Γ W (.var i) = uVar i := rfl
example {Γ : Gam} {W : UW} {a b c : Ex} : trE Γ W (.ife a b c) = fun s G Q => trT Γ W a s G fun k G1 => if k = true then trE Γ W b s G1 Q else trE Γ W c s G1 Q := rfl
end UL
set_option Elab.async false
set_option linter.all false
set_option autoImplicit false
set_option maxRecDepth 100000
set_option maxHeartbeats 4000000
/-! UL8: a tree fits the text: expressions. -/
namespace UL
open PySem PySem.Spec L2
def notStar : Expr → Bool
  | .Starred _ _ => false
  | _ => true
def notSet : Expr → Bool
  | .Set _ _ _ => false
  | _ => true
def plainT : Expr → Bool
  | .UnaryOp op _ _ => decide (op ≠ .Not)
  | .BoolOp _ _ _ => false
  | .IfExp _ _ _ _ => false
  | .Compare _ _ _ _ => false
  | _ => true
def plainO : Expr → Bool
  | .Name _ _ => true
  | .Subscript _ _ _ => true
  | .Attribute _ _ _ => true
  | .Constant _ _ _ => true
  | _ => false
def notSl : Expr → Bool
  | .Slice _ _ _ _ => false
  | _ => true
theorem star_each {e : Expr} {es : List Expr} {env : Env} (h : notStar e = true) : starEach (e :: es) env = (false, eval e env) :: starEach es env := by
  cases e <;> first | rfl | cases h
theorem star_any {env : Env} {pos : Pos} : ∀ {es : List Expr}, es.all notStar = true → (backTo pos (starEach es env)).any (·.1) = false
  | [], _ => rfl
  | e :: es, h => by
    simp only [List.all_cons, Bool.and_eq_true] at h
    rw [star_each h.1]
    have ih := star_any (env := env) (pos := pos) h.2
    show ((false || (backTo pos (starEach es env)).any (·.1))) = false
    rw [ih]; rfl
theorem star_all {env : Env} {pos : Pos} : ∀ {es : List Expr}, es.all notStar = true → (backTo pos (starEach es env)).all (fun x => !x.1) = true
  | [], _ => rfl
  | e :: es, h => by
    simp only [List.all_cons, Bool.and_eq_true] at h
    rw [star_each h.1]
    have ih := star_all (env := env) (pos := pos) h.2
    show ((!false && (backTo pos (starEach es env)).all (fun x => !x.1))) = true
    rw [ih]; rfl
theorem assign_each {e : Expr} {es : List Expr} {env : Env} (h : notStar e = true) : assignEach (e :: es) env = (false, assign e env) :: assignEach es env := by
  cases e <;> first | rfl | cases h
theorem plain_t {e : Expr} {env : Env} (h : plainT e = true) : ∀ whole, isTrue e env whole = (do let v ← whole; standAt e.pos; holding [v] (truthy v)) := by
  intro whole
  cases e with
  | UnaryOp op a pos =>
    have h' : op ≠ .Not := of_decide_eq_true h
    cases op <;> first | rfl | exact absurd rfl h'
  | BoolOp _ _ _ => cases h
  | IfExp _ _ _ _ => cases h
  | Compare _ _ _ _ => cases h
  | _ => rfl
theorem plain_o {o : Expr} {f : Str} {env : Env} (h : plainO o = true) : attributeBase o f env (eval o env) = eval o env := by
  cases o <;> first | rfl | cases h
theorem plain_ix {b : Expr} (h : notSl b = true) : PlainIx b := by
  intro o i
  cases b <;> first | rfl | cases h
theorem not_set {e : Expr} {env : Env} (h : notSet e = true) : ∀ x, foldedSetIterable e env x = pure x := by
  intro x
  cases e <;> first | rfl | cases h
theorem nomark' {op : CmpOp} {e : Expr} (h : notSet e = true) : behindInMarks op e = false := by
  cases e <;> first | rfl | cases h

mutual
def chkG (N : List Str) (sc : Scope) : Tg → Expr → Bool
  | .nm i => fun ex => match ex with
    | .Name x _ => decide (N[i]? = some x) && locB sc x
    | _ => false
  | .tup ts => fun ex => match ex with
    | .Tuple es _ _ => chkGs N sc ts es
    | _ => false
def chkGs (N : List Str) (sc : Scope) : Tgs → List Expr → Bool
  | .nil => fun es => match es with
    | [] => true
    | _ => false
  | .cons t ts => fun es => match es with
    | e :: es => notStar e && chkG N sc t e && chkGs N sc ts es
    | _ => false
end
def ownOf (N : List Str) (vs : List Nat) : List (Str × Nat) := vs.map fun i => (N.getD i "", i)
mutual
def chkE (N : List Str) (sc : Scope) (tb : Tab) : Ex → Expr → Bool
  | .var i => fun ex => match ex with
    | .Name x _ => decide (N[i]? = some x) && visB sc x && !(x == ("__debug__" : Str)) && !(x == ("__classdict__" : Str))
    | _ => false
  | .int i => fun ex => match ex with
    | .Constant (.int j) _ _ => decide (i = j)
    | _ => false
  | .bl i => fun ex => match ex with
    | .Constant (.bool j) _ _ => decide (i = j)
    | _ => false
  | .non => fun ex => match ex with
    | .Constant .none _ _ => true
    | _ => false
  | .str i => fun ex => match ex with
    | .Constant (.str j) _ _ => decide (i = j)
    | _ => false
  | .gl i => fun ex => match ex with
    | .Name x _ => decide (tb.gls[i]? = some x) && glB sc x
    | _ => false
  | .ty n => fun ex => match ex with
    | .Name x _ => glB sc x && decide (x ∈ bltNames) && decide (bootBuiltins x = some (.type n)) && decide (x ≠ "__name__") && !(x == ("__debug__" : Str))
    | _ => false
  | .bin op a b => fun ex => match ex with
    | .BinOp l o r _ => decide (op = o) && chkE N sc tb a l && chkE N sc tb b r
    | _ => false
  | .neg a => fun ex => match ex with
    | .UnaryOp .USub l _ => chkE N sc tb a l
    | _ => false
  | .not a => fun ex => match ex with
    | .UnaryOp .Not l _ => chkE N sc tb a l
    | _ => false
  | .cmp op a b => fun ex => match ex with
    | .Compare l [o] [r] _ => decide (op = o) && notSet r && chkE N sc tb a l && chkE N sc tb b r
    | _ => false
  | .chain o1 o2 a b c => fun ex => match ex with
    | .Compare l [p, q] [r, t] _ => decide (o1 = p) && decide (o2 = q) && notSet r && notSet t && chkE N sc tb a l && chkE N sc tb b r && chkE N sc tb c t
    | _ => false
  | .and a b => fun ex => match ex with
    | .BoolOp .And (x :: y :: rest) pos => chkE N sc tb a x && (match rest with
      | [] => chkE N sc tb b y
      | _ => chkE N sc tb b (.BoolOp .And (y :: rest) pos))
    | _ => false
  | .or a b => fun ex => match ex with
    | .BoolOp .Or (x :: y :: rest) pos => chkE N sc tb a x && (match rest with
      | [] => chkE N sc tb b y
      | _ => chkE N sc tb b (.BoolOp .Or (y :: rest) pos))
    | _ => false
  | .ife c a b => fun ex => match ex with
    | .IfExp t x y _ => chkE N sc tb c t && chkE N sc tb a x && chkE N sc tb b y
    | _ => false
  | .tup es => fun ex => match ex with
    | .Tuple xs _ _ => chkA N sc tb es xs
    | _ => false
  | .lst es => fun ex => match ex with
    | .List xs _ => chkA N sc tb es xs
    | _ => false
  | .call f es => fun ex => match ex with
    | .Call (.Name x _) (y :: ys) [] _ => decide (tb.fns[f]? = some x) && (spl x).isNone && glB sc x && chkA N sc tb es (y :: ys)
    | .Call (.Name x _) [] [] _ => !tb.hot && decide (tb.fns[f]? = some x) && (spl x).isNone && glB sc x && chkA N sc tb es []
    | _ => false
  | .blt b es => fun ex => match ex with
    | .Call (.Name x _) (y :: ys) [] _ => (!tb.hot || !b.cool) && decide (b.nm = x) && glB sc x && chkA N sc tb es (y :: ys)
    | _ => false
  | .mth m o es => fun ex => match ex with
    | .Call (.Attribute r nm ap) (y :: ys) [] cp => decide (m.nm = nm) && plainO r && (ap.endLine == cp.line) && decide ((y :: ys).length < 29) && chkE N sc tb o r && chkA N sc tb es (y :: ys)
    | .Call (.Attribute r nm ap) [] [] cp => decide (m.nm = nm) && plainO r && (ap.endLine == cp.line) && chkE N sc tb o r && chkA N sc tb es []
    | _ => false
  | .ix o i => fun ex => match ex with
    | .Subscript x y _ => notSl y && chkE N sc tb o x && chkE N sc tb i y
    | _ => false
  | .sl o lo hi => fun ex => match ex with
    | .Subscript x (.Slice l h none _) _ => chkE N sc tb o x && chkO N sc tb lo l && chkO N sc tb hi h
    | _ => false
  | .stp o c => fun ex => match ex with
    | .Subscript x (.Slice none none (some st) _) _ => chkE N sc tb o x && chkE N sc tb c st
    | _ => false
  | .fmt e => fun ex => match ex with
    | .FormattedValue x (-1) none _ => chkE N sc tb e x
    | _ => false
  | .jn es => fun ex => match ex with
    | .JoinedStr (x :: y :: r) _ => chkA N sc tb es (x :: y :: r)
    | _ => false
  | .xf o f => fun ex => match ex with
    | .Attribute r g _ => decide (f = g) && plainO r && chkE N sc tb o r
    | _ => false
  | .xi o y => fun ex => match ex with
    | .Call (.Name x _) [a, .Name z _] [] _ => decide (x = "isinstance") && decide (y = z) && glB sc x && glB sc z && notStar a && chkE N sc tb o a
    | _ => false
  | .fld o f => fun ex => match ex with
    | .Attribute r g _ => decide (f = g) && plainO r && chkE N sc tb o r
    | _ => false
  | .om c m j o es => fun ex => match ex with
    | .Call (.Attribute r nm ap) (y :: ys) [] cp => !tb.hot && decide (m = nm) && decide ((tb.fns[j]?).bind spl = some (c, m)) && plainO r && (ap.endLine == cp.line) && decide ((y :: ys).length < 29) && chkE N sc tb o r && chkA N sc tb es (y :: ys)
    | .Call (.Attribute r nm ap) [] [] cp => !tb.hot && decide (m = nm) && decide ((tb.fns[j]?).bind spl = some (c, m)) && plainO r && (ap.endLine == cp.line) && chkE N sc tb o r && chkA N sc tb es []
    | _ => false
  | .dnew => fun ex => match ex with
    | .Dict [] [] _ => true
    | _ => false
  | .dsp k v => fun ex => match ex with
    | .Dict [some x] [y] _ => chkE N sc tb k x && chkE N sc tb v y
    | _ => false
  | .dget o k d => fun ex => match ex with
    | .Call (.Attribute r nm ap) [x, y] [] cp => decide (nm = "get") && plainO r && (ap.endLine == cp.line) && notStar x && notStar y && chkE N sc tb o r && chkE N sc tb k x && chkE N sc tb d y
    | _ => false
  | .dc k v tg it c => fun ex => match ex with
    | .DictComp kx vx [⟨t, i, ifs, 0⟩] scope _ => !tb.hot && notSet i && blkC N sc scope (ownOf N (slotsG tg)) && chkI N sc tb it t i && chkG N scope tg t && chkC N scope tb c ifs && chkE N scope tb k kx && chkE N scope tb v vx
    | _ => false
  | .maxd e c => fun ex => match ex with
    | .Call (.Name x _) [y] [⟨some nm, z, _⟩] _ => !tb.hot && decide (x = "max") && decide (nm = Str.ofString "default") && glB sc x && notStar y && chkE N sc tb e y && chkE N sc tb c z
    | _ => false
  | .lc2 elt tg it c tg1 it1 c1 => fun ex => match ex with
    | .ListComp el [⟨t, i, ifs, 0⟩, ⟨t1, i1, ifs1, 0⟩] scope _ => !tb.hot && notSet i && notSet i1 && blkC N sc scope (ownOf N (slotsG tg ++ slotsG tg1)) && chkI N sc tb it t i && chkG N scope tg t && chkC N scope tb c ifs && chkI N scope tb it1 t1 i1 && chkG N scope tg1 t1 && chkC N scope tb c1 ifs1 && chkE N scope tb elt el
    | _ => false
  | .lc elt tg it c => fun ex => match ex with
    | .ListComp el [⟨t, i, ifs, 0⟩] scope _ => !tb.hot && notSet i && blkC N sc scope (ownOf N (slotsG tg)) && chkI N sc tb it t i && chkG N scope tg t && chkC N scope tb c ifs && chkE N scope tb elt el
    | _ => false
def chkA (N : List Str) (sc : Scope) (tb : Tab) : Exs → List Expr → Bool
  | .nil => fun xs => match xs with
    | [] => true
    | _ => false
  | .cons e es => fun xs => match xs with
    | x :: xs => notStar x && chkE N sc tb e x && chkA N sc tb es xs
    | _ => false
def chkO (N : List Str) (sc : Scope) (tb : Tab) : Exo → Option Expr → Bool
  | .no => fun x => match x with
    | none => true
    | _ => false
  | .yes e => fun x => match x with
    | some x => chkE N sc tb e x
    | _ => false
def chkC (N : List Str) (sc : Scope) (tb : Tab) : Exo → List Expr → Bool
  | .no => fun x => match x with
    | [] => true
    | _ => false
  | .yes e => fun x => match x with
    | [x] => chkE N sc tb e x
    | _ => false
def chkI (N : List Str) (sc : Scope) (tb : Tab) : Ito → Expr → Expr → Bool
  | .rng1 a => fun _ ex => match ex with
    | .Call (.Name x _) [y] [] _ => decide (x = "range") && glB sc x && notStar y && chkE N sc tb a y
    | _ => false
  | .rng2 a b => fun _ ex => match ex with
    | .Call (.Name x _) [y, z] [] _ => decide (x = "range") && glB sc x && notStar y && notStar z && chkE N sc tb a y && chkE N sc tb b z
    | _ => false
  | .rng3 a b c => fun _ ex => match ex with
    | .Call (.Name x _) [y, z, w] [] _ => decide (x = "range") && glB sc x && notStar y && notStar z && notStar w && chkE N sc tb a y && chkE N sc tb b z && chkE N sc tb c w
    | _ => false
  | .val e => fun _ ex => chkE N sc tb e ex
  | .enum e => fun t ex => match t, ex with
    | .Tuple _ _ _, .Call (.Name x _) [y] [] _ => decide (x = "enumerate") && glB sc x && notStar y && chkE N sc tb e y
    | _, _ => false
  | .zip a b => fun t ex => match t, ex with
    | .Tuple _ _ _, .Call (.Name x _) [y, z] [] _ => decide (x = "zip") && glB sc x && notStar y && notStar z && chkE N sc tb a y && chkE N sc tb b z
    | _, _ => false
end
theorem chkA_star {N : List Str} {sc : Scope} {tb : Tab} : ∀ {es : Exs} {xs : List Expr}, chkA N sc tb es xs = true → xs.all notStar = true
  | .nil, [], _ => rfl
  | .nil, _ :: _, h => by cases h
  | .cons _ _, [], h => by cases h
  | .cons e es, x :: xs, h => by
    simp only [chkA, Bool.and_eq_true] at h
    simp only [List.all_cons, Bool.and_eq_true]
    exact ⟨h.1.1, chkA_star h.2⟩
end UL
set_option Elab.async false
set_option linter.all false
set_option autoImplicit false
set_option maxRecDepth 100000
set_option maxHeartbeats 4000000
/-! UL9: soundness of targets, of what is walked. -/
namespace UL
open PySem PySem.Spec L2
def cG (K : PySem.W.Frag) (vs : List Nat) (t : U → USt → UH → (USt → UH → Prop) → Prop) : TG := fun v σ H Q => ∃ u s G Q0, RU K H u v ∧ SR K H s σ ∧ HR K G H ∧ t u s G Q0 ∧
  ∀ s' G' σ' H', Q0 s' G' → SR K H' s' σ' → HR K G' H' → Ext H H' → σ'.length = σ.length → (∀ i, i ∉ vs → σ'[i]? = σ[i]?) → Q σ' H'
def cGs (K : PySem.W.Frag) (vs : List Nat) (t : List U → USt → UH → (USt → UH → Prop) → Prop) : TGs := fun xs σ H Q => ∃ us s G Q0, RUs K H us xs ∧ SR K H s σ ∧ HR K G H ∧ t us s G Q0 ∧
  ∀ s' G' σ' H', Q0 s' G' → SR K H' s' σ' → HR K G' H' → Ext H H' → σ'.length = σ.length → (∀ i, i ∉ vs → σ'[i]? = σ[i]?) → Q σ' H'
theorem PG.weak {X : Cx} {e : Expr} {t t' : TG} (h : PG X e t) (w : ∀ v σ H Q, t' v σ H Q → t v σ H Q) : PG X e t' := ⟨fun pins s σ H v u Q I r q => h.run pins s σ H v u Q I r (w v σ H Q q)⟩
theorem PGs.weak {X : Cx} {e : List Expr} {t t' : TGs} (h : PGs X e t) (w : ∀ v σ H Q, t' v σ H Q → t v σ H Q) : PGs X e t' := ⟨fun pins s σ H v u Q I r q => h.run pins s σ H v u Q I r (w v σ H Q q)⟩
theorem chkGs_len {N : List Str} {sc : Scope} {env : Env} : ∀ {ts : Tgs} {es : List Expr}, chkGs N sc ts es = true → (assignEach es env).length = lenG ts ∧ (assignEach es env).findIdx? (·.1) = none
  | .nil, [], _ => ⟨rfl, rfl⟩
  | .nil, _ :: _, h => by cases h
  | .cons _ _, [], h => by cases h
  | .cons t ts, e :: es, h => by
    simp only [chkGs, Bool.and_eq_true] at h
    obtain ⟨i1, i2⟩ := chkGs_len (env := env) h.2
    rw [assign_each h.1.1]
    refine ⟨by simp [lenG, i1], ?_⟩
    rw [List.findIdx?_cons]
    simp [i2]
section
variable {sc : Scope} {tb : Tab} {Γ : Gam}
mutual
theorem sG {X : Cx} (C : CtxOk X sc tb Γ) : ∀ (t : Tg) (e : Expr), (tb.hot = false ∨ ∃ i, t = .nm i) → chkG X.N sc t e = true → PG X e (cG X.K (slotsG t) (trG t))
  | .nm i, e, _, h => by
    unfold chkG at h
    split at h
    · rename_i x p
      simp only [Bool.and_eq_true, decide_eq_true_eq] at h
      obtain ⟨h1, h2⟩ := h
      obtain ⟨hl, hf⟩ := C.sco.loc _ h2
      refine PG.weak (pg_name C.nd h1 hl hf) fun v σ H Q q => ?_
      obtain ⟨u, s, G, Q0, ru, hs, hg, q, k⟩ := q
      refine k _ G _ H q ?_ hg .refl (by simp) fun j hj => ?_
      · rw [setS_eq]; exact hs.set ru
      · have : i ≠ j := fun z => hj (by simp [slotsG, z])
        rw [List.getElem?_set_ne this]
    · cases h
  | .tup ts, e, hh, h => by
    have hh : tb.hot = false := hh.resolve_right fun ⟨i, z⟩ => by cases z
    unfold chkG at h
    split at h
    · rename_i es kk p
      obtain ⟨l1, l2⟩ := chkGs_len (env := X.env) h
      have P := sGs C hh ts es h
      refine ⟨fun pins s σ H v u Q I r q => ?_⟩
      obtain ⟨w, s0, G, Q0, ru, hs, hg, q, k⟩ := q
      unfold trG at q
      split at q
      · obtain ⟨a, xs, rfl, h1, r1⟩ := ru.tup_inv
        exact (pg_tup (n := lenG ts) (C.calm hh) P l1 l2).run pins s σ H _ u Q I r ⟨a, xs, rfl, h1, by rw [← r1.length]; exact q.1, _, s0, G, Q0, r1, hs, hg, q.2, k⟩
      · cases ru
        split at q
        · rename_i e1
          obtain ⟨xs, h1, r1⟩ := hg.lst e1
          exact (pg_lst (n := lenG ts) (C.calm hh) P l1 l2).run pins s σ H _ u Q I r ⟨_, xs, rfl, SqL.of h1, by rw [← r1.length]; exact q.1, _, s0, G, Q0, r1, hs, hg, q.2, k⟩
        · exact q.elim
      · exact q.elim
    · cases h
theorem sGs {X : Cx} (C : CtxOk X sc tb Γ) (hh : tb.hot = false) : ∀ (ts : Tgs) (es : List Expr), chkGs X.N sc ts es = true → PGs X es (cGs X.K (slotsGs ts) (trGs ts))
  | .nil, [], _ => by
    refine PGs.weak pgs_nil fun v σ H Q q => ?_
    obtain ⟨us, s, G, Q0, ru, hs, hg, q, k⟩ := q
    obtain ⟨rfl, q⟩ := q
    cases ru
    exact ⟨rfl, k _ G _ H q hs hg .refl rfl fun _ _ => rfl⟩
  | .nil, _ :: _, h => by cases h
  | .cons _ _, [], h => by cases h
  | .cons t ts, e :: es, h => by
    simp only [chkGs, Bool.and_eq_true] at h
    refine PGs.weak (pgs_cons (sG C t e (.inl hh) h.1.2) (sGs C hh ts es h.2) (by rw [assign_each h.1.1]; rfl)) fun v σ H Q q => ?_
    obtain ⟨us, s, G, Q0, ru, hs, hg, q, k⟩ := q
    unfold trGs at q
    split at q
    · cases ru with
      | cons r rt =>
        refine ⟨_, _, rfl, _, s, G, _, r, hs, hg, q, fun s1 G1 σ1 H1 q1 hs1 hg1 e1 l1 o1 => ?_⟩
        refine ⟨_, s1, G1, Q0, RUs.ext e1 rt, hs1, hg1, q1, fun s2 G2 σ2 H2 q2 hs2 hg2 e2 l2 o2 => ?_⟩
        refine k _ _ _ _ q2 hs2 hg2 (e1.trans e2) (l2.trans l1) fun i hi => ?_
        simp only [slotsGs, List.mem_append, not_or] at hi
        rw [o2 i hi.2, o1 i hi.1]
    · exact q.elim
end
end

/-! ### what is walked -/
structure ItRel (K : PySem.W.Frag) (H0 : Hp) (J : It) (ds : Deps) (ys : List U) : Prop where
  go : ∀ (i : Nat) (G : UH) (H : Hp), HR K G H → depsOk G ds → Ext H0 H → i < ys.length → J.go i H
  yld : ∀ (i : Nat) (G : UH) (H : Hp) (x : V) (H' : Hp), HR K G H → depsOk G ds → Ext H0 H → J.yld i H x H' → i < ys.length → ∃ u, ys[i]? = some u ∧ RU K H' u x ∧ HR K G H' ∧ Ext H H'
  stop : ∀ (G : UH) (H : Hp), HR K G H → depsOk G ds → Ext H0 H → J.stop ys.length H
def cI (K : PySem.W.Frag) (t : USt → UH → (Deps → List U → UH → Prop) → Prop) : TI := fun σ H R => ∃ s G R0, SR K H s σ ∧ HR K G H ∧ t s G R0 ∧
  ∀ ds ys G' H' J, R0 ds ys G' → HR K G' H' → Ext H H' → ItRel K H' J ds ys → R J H'
theorem PI.weak {X : Cx} {tg e : Expr} {t t' : TI} (h : PI X tg e t) (w : ∀ σ H R, t' σ H R → t σ H R) : PI X tg e t' := ⟨fun pins s σ H R I q => h.run pins s σ H R I (w σ H R q)⟩
theorem range_get : ∀ (n : Nat) (lo c : Int) (i : Nat), i < n → (rangeU lo c n)[i]? = some (.int (lo + i * c))
  | 0, _, _, _, h => by omega
  | n + 1, lo, c, 0, _ => by simp [rangeU]
  | n + 1, lo, c, i + 1, h => by
    simp only [rangeU, List.getElem?_cons_succ]
    rw [range_get n (lo + c) c i (by omega)]
    congr 2
    have : ((i + 1 : Nat) : Int) * c = (i : Int) * c + c := by
      rw [Int.natCast_add, Int.add_mul]; simp
    omega
theorem range_len : ∀ (n : Nat) (lo c : Int), (rangeU lo c n).length = n
  | 0, _, _ => rfl
  | n + 1, lo, c => by simp [rangeU, range_len n]
theorem enum_get : ∀ (us : List U) (k i : Nat), (enumU k us)[i]? = (us[i]?).map fun u => .tup [.int ((k + i : Nat) : Int), u]
  | [], _, _ => by simp [enumU]
  | u :: us, k, 0 => by simp [enumU]
  | u :: us, k, i + 1 => by
    simp only [enumU, List.getElem?_cons_succ]
    rw [enum_get us (k + 1) i]
    have : k + 1 + i = k + (i + 1) := by omega
    rw [this]
theorem enum_len : ∀ (us : List U) (k : Nat), (enumU k us).length = us.length
  | [], _ => rfl
  | u :: us, k => by simp [enumU, enum_len us]
theorem zip_get : ∀ (us ws : List U) (i : Nat) (u w : U), us[i]? = some u → ws[i]? = some w → (zipU us ws)[i]? = some (.tup [u, w])
  | [], _, _, _, _, h, _ => by simp at h
  | _ :: _, [], _, _, _, _, h => by simp at h
  | a :: us, b :: ws, 0, u, w, h1, h2 => by simp at h1 h2; subst h1; subst h2; simp [zipU]
  | a :: us, b :: ws, i + 1, u, w, h1, h2 => by simp [zipU]; exact zip_get us ws i u w (by simpa using h1) (by simpa using h2)
theorem zip_len : ∀ (us ws : List U), (zipU us ws).length = min us.length ws.length
  | [], _ => by simp [zipU]
  | _ :: _, [] => by simp [zipU]
  | a :: us, b :: ws => by simp [zipU, zip_len us ws]
theorem it_range {K : PySem.W.Frag} {H0 : Hp} (lo c : Int) (n : Nat) : ItRel K H0 (Itc lo c n) [] (rangeU lo c n) := by
  refine ⟨fun i G H _ _ _ hi => ?_, fun i G H x H' hg _ _ y hi => ?_, fun G H _ _ _ => ?_⟩
  · rw [range_len] at hi; exact hi
  · rw [range_len] at hi
    obtain ⟨rfl, rfl⟩ := y
    exact ⟨_, range_get n lo c i hi, .int _, hg, .refl⟩
  · rw [range_len]; exact Nat.le_refl _
theorem it_range1 {K : PySem.W.Frag} {H0 : Hp} (lo : Int) (n : Nat) : ItRel K H0 (Itr lo n) [] (rangeU lo 1 n) := by
  refine ⟨fun i G H _ _ _ hi => ?_, fun i G H x H' hg _ _ y hi => ?_, fun G H _ _ _ => ?_⟩
  · rw [range_len] at hi; exact hi
  · rw [range_len] at hi
    obtain ⟨rfl, rfl⟩ := y
    have q := range_get n lo 1 i hi
    rw [Int.mul_one] at q
    exact ⟨_, q, .int _, hg, .refl⟩
  · rw [range_len]; exact Nat.le_refl _
theorem it_tup {K : PySem.W.Frag} {H0 : Hp} {a : Addr} {xs : List V} {us : List U} (h : SqT K H0 a xs) (r : RUs K H0 us xs) : ItRel K H0 (Itt K a) [] us := by
  refine ⟨fun i G H _ _ e hi => ?_, fun i G H x H' hg _ e y hi => ?_, fun G H _ _ e => ?_⟩
  · rw [r.length] at hi
    exact ⟨xs, xs[i], SqT.ext e h, by simp [hi]⟩
  · obtain ⟨rfl, y⟩ := y
    obtain ⟨u, h1, h2⟩ := (RUs.ext e r).get' (y xs (SqT.ext e h))
    exact ⟨u, h1, h2, hg, .refl⟩
  · exact ⟨xs, SqT.ext e h, by rw [r.length]; exact Nat.le_refl _⟩
theorem it_rol {K : PySem.W.Frag} {H0 : Hp} {a : Addr} {xs : List V} {us : List U} (h : Frz K H0 a xs) (r : RUs K H0 us xs) : ItRel K H0 (Itl K a) [] us := by
  refine ⟨fun i G H _ _ e hi => ?_, fun i G H x H' hg _ e y hi => ?_, fun G H _ _ e => ?_⟩
  · rw [r.length] at hi
    exact ⟨xs, xs[i], (Frz.ext e h).sq, by simp [hi]⟩
  · obtain ⟨rfl, y⟩ := y
    obtain ⟨u, h1, h2⟩ := (RUs.ext e r).get' (y xs (Frz.ext e h).sq)
    exact ⟨u, h1, h2, hg, .refl⟩
  · exact ⟨xs, (Frz.ext e h).sq, by rw [r.length]; exact Nat.le_refl _⟩
theorem it_lst {K : PySem.W.Frag} {H0 : Hp} {a : Addr} {us : List U} : ItRel K H0 (Itl K a) [(a, us)] us := by
  refine ⟨fun i G H hg d e hi => ?_, fun i G H x H' hg d e y hi => ?_, fun G H hg d e => ?_⟩
  · obtain ⟨xs, h1, r⟩ := hg.lst d.1
    rw [r.length] at hi
    exact ⟨xs, xs[i], SqL.of h1, by simp [hi]⟩
  · obtain ⟨xs, h1, r⟩ := hg.lst d.1
    obtain ⟨rfl, y⟩ := y
    obtain ⟨u, h1, h2⟩ := r.get' (y xs (SqL.of h1))
    exact ⟨u, h1, h2, hg, .refl⟩
  · obtain ⟨xs, h1, r⟩ := hg.lst d.1
    exact ⟨xs, SqL.of h1, by rw [r.length]; exact Nat.le_refl _⟩
theorem it_str {K : PySem.W.Frag} {H0 : Hp} (z : Str) : ItRel K H0 (Its z) [] (z.cps.toList.map fun c => U.str ⟨#[c]⟩) := by
  refine ⟨fun i G H _ _ _ hi => ?_, fun i G H x H' hg _ _ y hi => ?_, fun G H _ _ _ => ?_⟩
  · show i < z.cps.size
    simpa using hi
  · obtain ⟨rfl, c, hc, rfl⟩ := y
    refine ⟨.str ⟨#[c]⟩, ?_, .str _, hg, .refl⟩
    rw [List.getElem?_map, Array.getElem?_toList, hc]; rfl
  · show z.cps.size ≤ _
    simp
/-- a sequence that is told, as the layer below has it -/
theorem seq_of {K : PySem.W.Frag} {G : UH} {H : Hp} {u : U} {v : V} {k : Deps → List U → Prop} (hg : HR K G H) (r : RU K H u v) (h : seqOf u G k) :
    ∃ (kk : Bool) (a : Addr) (xs : List V) (ds : Deps) (us : List U), v = .ref a ∧ SqK K H kk a xs ∧ k ds us ∧ depsOk G ds ∧
      (∀ G1 H1, HR K G1 H1 → depsOk G1 ds → Ext H H1 → ∃ ys, SqK K H1 kk a ys ∧ RUs K H1 us ys) := by
  unfold seqOf at h
  split at h
  · obtain ⟨a, xs, rfl, h1, r1⟩ := r.tup_inv
    exact ⟨true, a, xs, _, _, rfl, h1, h, trivial, fun G1 H1 _ _ e => ⟨xs, SqT.ext e h1, RUs.ext e r1⟩⟩
  · obtain ⟨a, xs, rfl, h1, r1⟩ := r.rol_inv
    exact ⟨false, a, xs, _, _, rfl, h1.sq, h, trivial, fun G1 H1 _ _ e => ⟨xs, (Frz.ext e h1).sq, RUs.ext e r1⟩⟩
  · cases r
    split at h
    · rename_i e1
      obtain ⟨xs, h1, r1⟩ := hg.lst e1
      exact ⟨false, _, xs, _, _, rfl, SqL.of h1, h, ⟨e1, trivial⟩, fun G1 H1 hg1 d e => by
        obtain ⟨ys, h2, r2⟩ := hg1.lst d.1
        exact ⟨ys, SqL.of h2, r2⟩⟩
    · exact h.elim
  · exact h.elim
theorem depsOk_app {G : UH} : ∀ {ds es : Deps}, depsOk G (ds ++ es) ↔ depsOk G ds ∧ depsOk G es
  | [], es => by simp [depsOk]
  | d :: ds, es => by simp [depsOk, depsOk_app (ds := ds), and_assoc]
theorem it_enum {K : PySem.W.Frag} {H0 : Hp} {kk : Bool} {a : Addr} {ds : Deps} {us : List U}
    (h : ∀ G1 H1, HR K G1 H1 → depsOk G1 ds → Ext H0 H1 → ∃ ys, SqK K H1 kk a ys ∧ RUs K H1 us ys) : ItRel K H0 (IteK K kk a) ds (enumU 0 us) := by
  refine ⟨fun i G H hg d e hi => ?_, fun i G H x H' hg d e y hi => ?_, fun G H hg d e => ?_⟩
  · obtain ⟨xs, h1, r⟩ := h G H hg d e
    rw [enum_len, r.length] at hi
    exact ⟨xs, xs[i], h1, by simp [hi]⟩
  · obtain ⟨xs, h1, r⟩ := h G H hg d e
    obtain ⟨T, z, rfl, hT, rfl, y⟩ := y
    obtain ⟨u, h2, h3⟩ := r.get' (y xs h1)
    obtain ⟨e1, g1, q⟩ := hg.newTup hT (ws := [.int (i : Nat), u]) (ys := [.int (i : Nat), z]) (.cons (.int _) (.cons h3 .nil))
    exact ⟨_, by rw [enum_get, h2]; simp, q, g1, e1⟩
  · obtain ⟨xs, h1, r⟩ := h G H hg d e
    exact ⟨xs, h1, by rw [enum_len, r.length]⟩
theorem it_zip {K : PySem.W.Frag} {H0 : Hp} {k1 k2 : Bool} {a b : Addr} {ds es : Deps} {us ws : List U}
    (h : ∀ G1 H1, HR K G1 H1 → depsOk G1 ds → Ext H0 H1 → ∃ ys, SqK K H1 k1 a ys ∧ RUs K H1 us ys)
    (h' : ∀ G1 H1, HR K G1 H1 → depsOk G1 es → Ext H0 H1 → ∃ ys, SqK K H1 k2 b ys ∧ RUs K H1 ws ys) : ItRel K H0 (ItzK K k1 k2 a b) (ds ++ es) (zipU us ws) := by
  refine ⟨fun i G H hg d e hi => ?_, fun i G H x H' hg d e y hi => ?_, fun G H hg d e => ?_⟩
  · obtain ⟨d1, d2⟩ := depsOk_app.mp d
    obtain ⟨xs, h1, r⟩ := h G H hg d1 e
    obtain ⟨ys, h2, r2⟩ := h' G H hg d2 e
    rw [zip_len, r.length, r2.length] at hi
    have i1 : i < xs.length := by omega
    have i2 : i < ys.length := by omega
    exact ⟨xs, ys, xs[i], ys[i], h1, h2, by simp [i1], by simp [i2]⟩
  · obtain ⟨d1, d2⟩ := depsOk_app.mp d
    obtain ⟨xs, h1, r⟩ := h G H hg d1 e
    obtain ⟨ys, h2, r2⟩ := h' G H hg d2 e
    obtain ⟨T, z, z2, rfl, hT, rfl, y1, y2⟩ := y
    obtain ⟨u, h3, h4⟩ := r.get' (y1 xs h1)
    obtain ⟨w, h5, h6⟩ := r2.get' (y2 ys h2)
    obtain ⟨e1, g1, q⟩ := hg.newTup hT (ws := [u, w]) (ys := [z, z2]) (.cons h4 (.cons h6 .nil))
    exact ⟨_, zip_get us ws i u w h3 h5, q, g1, e1⟩
  · obtain ⟨d1, d2⟩ := depsOk_app.mp d
    obtain ⟨xs, h1, r⟩ := h G H hg d1 e
    obtain ⟨ys, h2, r2⟩ := h' G H hg d2 e
    refine ⟨xs, ys, h1, h2, ?_⟩
    rw [zip_len, r.length, r2.length]
    omega
end UL
set_option Elab.async false
set_option linter.all false
set_option autoImplicit false
set_option maxRecDepth 100000
set_option maxHeartbeats 4000000
/-! UL10: soundness of expressions. -/
namespace UL
open PySem PySem.Spec L2
def cO (K : PySem.W.Frag) (t : USt → UH → (Option Int → UH → Prop) → Prop) : TO := fun σ H Q => ∃ s G Q0, SR K H s σ ∧ HR K G H ∧ t s G Q0 ∧ ∀ o G' H', Q0 o G' → HR K G' H' → Ext H H' → Q o H'
theorem PO.weak {X : Cx} {e : Option Expr} {t t' : TO} (h : PO X e t) (w : ∀ σ H Q, t' σ H Q → t σ H Q) : PO X e t' := ⟨fun pins s σ H Q I q => h.run pins s σ H Q I (w σ H Q q)⟩
theorem PTs.weak {X : Cx} {e : List Expr} {t t' : TT} (h : PTs X e t) (w : ∀ σ H Q, t' σ H Q → t σ H Q) : PTs X e t' := ⟨fun pins s σ H Q I q => h.run pins s σ H Q I (w σ H Q q)⟩
theorem pw_of {X : Cx} {op : BoolOp} {vs : List Expr} {pos : Pos} {t : TT} (h : PT X (.BoolOp op vs pos) t) : PW X (.BoolOp op vs pos) t :=
  ⟨fun _ pins s σ H Q I q => h.run pins s σ H Q I q⟩
section
variable {X : Cx}
theorem Blt.pe {b : Blt} {e : Expr} {es : List Expr} {p pos : Pos} {t : TA} (hc : b.cool = true → X.calm = true) (hg : Gl X b.nm) (hm : X.mg b.nm = none) (ha : PA X (e :: es) t)
    (he : starEach (e :: es) X.env = (false, eval e X.env) :: starEach es X.env) (hpl : (backTo pos (starEach es X.env)).any (·.1) = false) : PE X (.Call (.Name b.nm p) (e :: es) [] pos) (tCB (cF X.K b.fn) t) := by
  have k := Blt.ok (X := X) b hc
  cases b with
  | len => exact pe_callB k hg hm (by decide +kernel) ha (by decide) (by decide) he hpl
  | abs => exact pe_callB k hg hm (by decide +kernel) ha (by decide) (by decide) he hpl
  | max2 => exact pe_callB k hg hm (by decide +kernel) ha (by decide) (by decide) he hpl
  | min2 => exact pe_callB k hg hm (by decide +kernel) ha (by decide) (by decide) he hpl
  | int => exact pe_callTy k hg hm (by decide +kernel) ha (by decide) (by decide) he hpl
  | str => exact pe_callTy k hg hm (by decide +kernel) ha (by decide) (by decide) he hpl
  | ord => exact pe_callB k hg hm (by decide +kernel) ha (by decide) (by decide) he hpl
  | sum => exact pe_callB k hg hm (by decide +kernel) ha (by decide) (by decide) he hpl
  | sorted => exact pe_callB k hg hm (by decide +kernel) ha (by decide) (by decide) he hpl
  | tuple => exact pe_callTy k hg hm (by decide +kernel) ha (by decide) (by decide) he hpl
  | list => exact pe_callTy k hg hm (by decide +kernel) ha (by decide) (by decide) he hpl
  | all => exact pe_callB k hg hm (by decide +kernel) ha (by decide) (by decide) he hpl
  | any => exact pe_callB k hg hm (by decide +kernel) ha (by decide) (by decide) he hpl
  | maxL => exact pe_callB k hg hm (by decide +kernel) ha (by decide) (by decide) he hpl
  | minL => exact pe_callB k hg hm (by decide +kernel) ha (by decide) (by decide) he hpl
  | divmod => exact pe_callB k hg hm (by decide +kernel) ha (by decide) (by decide) he hpl
  | isi => exact pe_callB k hg hm (by decide +kernel) ha (by decide) (by decide) he hpl
theorem Blt.nm_mem (b : Blt) : b.nm ∈ bltNames := by
  cases b <;> decide
theorem pe_callSD0 {k : Nat} {f : Addr} {fd : FuncData} {ps : List Str} {sp : Sp} {E : L2.St → XK} {x : Str} {p pos : Pos} (F : FnOk X.prog X.w X.K X.mg X.base (L2N.CX X.prog X.w) k f fd ps sp) (hr : Room k X.A) (hg : Gl X x) (hm : X.mg x = some (.ref f))
    (hk : PySem.W.keepIn X.K (.ref f) = true) (hb : Binds X.K fd ps []) (hx : ∀ σ, PassesAt (L2N.CX X.prog X.w) X σ (E σ)) (hdb : (x == ("__debug__" : Str)) = false) : PE X (.Call (.Name x p) [] [] pos) (tCallSD sp [] E tNil) := by
  refine ⟨fun pins s σ H Q I h => ?_⟩
  refine wpAny_Call_Name_kw (ld_glob I hg hm ?_ hdb)
  exact PySem.W.callWith_K0 I.kIn hk (run_fnSD (us := []) F hr hb .nil (hx σ) I .nil h)
end
theorem wipe_get {σ : L2.St} : ∀ {vs : List Nat} {i : Nat}, (wipe σ vs)[i]? = if i ∈ vs ∧ i < σ.length then some none else σ[i]?
  | [], i => by simp [wipe]
  | v :: vs, i => by
    unfold wipe
    by_cases h : v = i
    · subst h
      by_cases hl : v < σ.length
      · rw [List.getElem?_set_self (by rw [wipe_length]; exact hl), if_pos ⟨List.mem_cons_self, hl⟩]
      · rw [if_neg (fun z => hl z.2), List.getElem?_eq_none (by simpa [wipe_length] using hl), List.getElem?_eq_none (by simpa using hl)]
    · rw [List.getElem?_set_ne h, wipe_get]
      simp [Ne.symm h]
theorem wipe_eq {σ σ' : L2.St} {vs : List Nat} (hl : σ'.length = σ.length) (h : ∀ i, i ∉ vs → σ'[i]? = (wipe σ vs)[i]?) : wipe σ' vs = wipe σ vs := by
  refine List.ext_getElem? fun i => ?_
  rw [wipe_get, wipe_get, hl]
  by_cases hi : i ∈ vs
  · by_cases h2 : i < σ.length
    · rw [if_pos ⟨hi, h2⟩, if_pos ⟨hi, h2⟩]
    · rw [if_neg (fun z => h2 z.2), if_neg (fun z => h2 z.2), List.getElem?_eq_none (by omega), List.getElem?_eq_none (by omega)]
  · rw [if_neg (fun z => hi z.1), if_neg (fun z => hi z.1), h i hi, wipe_get, if_neg (fun z => hi z.1)]
theorem SR.wipe {K : PySem.W.Frag} {H : Hp} {s : USt} {σ : L2.St} (r : SR K H s σ) : ∀ vs : List Nat, SR K H (wipeU s vs) (wipe σ vs)
  | [] => r
  | v :: vs => by
    unfold wipeU L2.wipe
    rw [setS_eq]
    exact (SR.wipe r vs).unset v none
theorem own_snd (N : List Str) (vs : List Nat) : (ownOf N vs).map (·.2) = vs := by
  unfold ownOf
  rw [List.map_map]
  exact List.map_id' vs
theorem takes_false {X : Cx} {W : WX} (h : ∀ c d σ H, ¬ W c d σ H) : L2N.Takes X W := fun u s' ⟨_, _, _, _, _, _, _, _, _, _, _, _, _, _, _, _, w⟩ => absurd w (h _ _ _ _)
section
variable {sc : Scope} {tb : Tab} {Γ : Gam}
theorem ScOk.blk {X : Cx} (C : ScOk X sc) (s : Shared) (H : Hp) (scope : Scope) (Cc : Addr) (cl : List (Str × Addr)) (fp : List Addr) : ScOk (X.blk s H scope (compEnvC scope cl Cc X.env) fp) scope := by
  have keep : ∀ {x : Str} {k : NameKind}, k ≠ .free → scope.names.lookup x = some k → (relS scope X.env.scope).names.lookup x = some k := fun hk h => lookup_relS_keep hk h
  have fr : ∀ {x : Str}, scope.names.lookup x = some .free → (relS scope X.env.scope).names.lookup x = some .cell ∨ (relS scope X.env.scope).names.lookup x = some .free := fun {x} h => by
    have q : ∀ l : List (Str × NameKind), l.lookup x = some .free → (l.map fun (n, k) => if (k == NameKind.free && X.env.scope.kind == .function && X.env.scope.names.lookup n == some .cell) then (n, NameKind.cell) else (n, k)).lookup x = some .cell ∨
        (l.map fun (n, k) => if (k == NameKind.free && X.env.scope.kind == .function && X.env.scope.names.lookup n == some .cell) then (n, NameKind.cell) else (n, k)).lookup x = some .free := by
      intro l
      induction l with
      | nil => intro z; cases z
      | cons p r ih =>
        obtain ⟨n, k⟩ := p
        intro z
        by_cases e : x = n
        · subst e
          simp only [List.lookup_cons, beq_self_eq_true] at z
          cases z
          simp only [List.map_cons]
          split
          · left; simp [List.lookup_cons]
          · right; simp [List.lookup_cons]
        · have e' : (x == n) = false := by simpa using e
          simp only [List.lookup_cons, e'] at z
          simp only [List.map_cons]
          have i := ih z
          split
          · simpa [List.lookup_cons, e'] using i
          · simpa [List.lookup_cons, e'] using i
    exact q scope.names h
  refine ⟨fun x h => ?_, fun x h => ?_, fun x h => ?_, fun x h => ?_⟩
  · simp only [visB, Bool.or_eq_true, decide_eq_true_eq] at h
    rcases h with (h | h) | h
    · exact .inl (keep (by decide) h)
    · exact .inr (.inl (keep (by decide) h))
    · rcases fr h with z | z
      · exact .inr (.inl z)
      · exact .inr (.inr z)
  · simp only [locB, Bool.or_eq_true, decide_eq_true_eq] at h
    rcases h with h | h
    · exact ⟨.inl (keep (by decide) h), .inr (keep (by decide) h)⟩
    · refine ⟨.inr (keep (by decide) h), .inl ?_⟩
      show (scope.names.lookup x == some .cell) = true
      rw [h]; rfl
  · have h' : scope.names.lookup x = some .globalImplicit := of_decide_eq_true h
    exact keep (by decide) h'
  · rcases h with h | h
    · exact .inl (keep (by decide) h)
    · exact fr h
theorem CtxOk.blk {X : Cx} (C : CtxOk X sc tb Γ) (hh : tb.hot = false) (s : Shared) (H : Hp) (scope : Scope) (Cc : Addr) (cl : List (Str × Addr)) (fp : List Addr) : CtxOk (X.blk s H scope (compEnvC scope cl Cc X.env) fp) scope tb Γ :=
  ⟨C.sco.blk s H scope Cc cl fp, C.nd, C.calm, C.hu, fun z i x h => ⟨(C.fns z i x h).ex, (C.fns z i x h).db⟩, fun z => (by rw [hh] at z; cases z), fun z => (by rw [hh] at z; cases z), fun c e => (by have z := (C.xc c e).1; rw [hh] at z; cases z), C.gls, C.blt⟩
theorem blk_ok {X : Cx} (C : CtxOk X sc tb Γ) {scope : Scope} {own : List (Str × Nat)} (h : blkC X.N sc scope own = true) : BlkOk X.N X.env.scope scope own := by
  obtain ⟨h1, h2, h3, h4, h5⟩ := blkOk_by h
  exact ⟨h1, h2, h3, fun y hy e => C.sco.cf _ (h4 y hy e), h5⟩
/-- a comprehension's turns, as the layer below asks for them -/
theorem lc_conv {X : Cx} {tg : Tg} {it : USt → UH → (Deps → List U → UH → Prop) → Prop} {tt : UTT} {te : UT} {σ : L2.St} {H : Hp} {Q : VK}
    (h : cE X.K (fun s G Q => it s G fun ds ys G1 => ∀ p, G1 p = none → lcU ds p (fun y k G2 => trG tg y (wipeU s (slotsG tg)) G2 k) tt te Q ys [] (up G1 p (.lst []))) σ H Q) :
    tLc (cI X.K it) (cG X.K (slotsG tg) (trG tg)) (cT X.K tt) (cE X.K te) (slotsG tg) σ H Q := by
  obtain ⟨s, G, Q0, hs, hg, h, k⟩ := h
  refine ⟨s, G, _, hs, hg, h, fun ds ys G1 H1 J h1 hg1 e1 R => ?_⟩
  intro D hD
  obtain ⟨eD, gD⟩ := hg1.newLst (p := D) (ws := []) (ys := []) hD .nil
  have h1 := h1 D (hg1.fresh hD)
  refine ⟨fun i m H2 => m = ys.length - i ∧ i ≤ ys.length ∧ Ext H1 H2 ∧ ∃ acc G2, HR X.K G2 H2 ∧ lcU ds D (fun y k G2 => trG tg y (wipeU s (slotsG tg)) G2 k) tt te Q0 (ys.drop i) acc G2, ⟨_, rfl, Nat.zero_le _, eD, [], _, gD, h1⟩, ?_⟩
  rintro i m H2 ⟨rfl, hi, e2, acc, G2, hg2, h2⟩
  by_cases hlt : i < ys.length
  · rw [List.drop_eq_getElem_cons hlt] at h2
    simp only [lcU] at h2
    obtain ⟨d2, p2, h2⟩ := h2
    refine .inr ⟨R.go i G2 H2 hg2 d2 e2 hlt, fun H3 => Ext H1 H3 ∧ ∃ acc G3, HR X.K G3 H3 ∧ lcU ds D (fun y k G2 => trG tg y (wipeU s (slotsG tg)) G2 k) tt te Q0 (ys.drop (i + 1)) acc G3, fun H' ⟨e', q'⟩ => ⟨_, by omega, rfl, hlt, e', q'⟩, fun x H3 y => ?_⟩
    obtain ⟨u, hu, ru, hg3, e3⟩ := R.yld i G2 H2 x H3 hg2 d2 e2 y hlt
    have eu : ys[i] = u := by
      rw [List.getElem?_eq_getElem hlt] at hu
      exact Option.some.inj hu
    rw [eu] at h2
    refine ⟨u, _, G2, _, ru, ((hs.ext (e1.trans (e2.trans e3)))).wipe _, hg3, h2, fun s4 G4 σ4 H4 h4 hs4 hg4 e4 l4 o4 => ?_⟩
    refine ⟨wipe_eq (by rw [l4, wipe_length]) o4, s4, G4, _, hs4, hg4, h4, fun b G5 H5 h5 hg5 e5 => ?_⟩
    have e15 : Ext H1 H5 := ((e2.trans e3).trans e4).trans e5
    cases b with
    | false =>
      simp only [Bool.false_eq_true, if_false] at h5 ⊢
      obtain ⟨G6, l6, h6⟩ := h5
      exact ⟨e15, acc, G6, hg5.le l6, h6⟩
    | true =>
      simp only [if_true] at h5 ⊢
      refine ⟨s4, G5, _, hs4.ext e5, hg5, h5, fun w G6 v6 H6 h6 r6 hg6 e6 => ?_⟩
      obtain ⟨p6, l6, G7, le7, h7⟩ := h6
      obtain ⟨xs, h8, r8⟩ := hg6.lst p6
      obtain ⟨e8, g8⟩ := hg6.setLst p6 (r8.append (.cons r6 .nil))
      exact ⟨xs, h8, by rw [← r8.length]; exact l6, (e15.trans e6).trans e8, _, G7, g8.le le7, h7⟩
  · have ei : i = ys.length := by omega
    subst ei
    rw [List.drop_length] at h2
    simp only [lcU] at h2
    exact .inl ⟨R.stop G2 H2 hg2 h2.1 e2, k _ G2 _ H2 h2.2.2 (.ref D) hg2 (e1.trans e2)⟩
/-- a dict comprehension's turns, as the layer below asks for them -/
theorem dc_conv {X : Cx} {tg : Tg} {it : USt → UH → (Deps → List U → UH → Prop) → Prop} {tt : UTT} {tk tv : UT} {σ : L2.St} {H : Hp} {Q : VK}
    (h : cE X.K (fun s G Q => it s G fun ds ys G1 => ∀ p, G1 p = none → dcU ds p (fun y k G2 => trG tg y (wipeU s (slotsG tg)) G2 k) tt tk tv Q ys [] (up G1 p (.dK []))) σ H Q) :
    tDc (cI X.K it) (cG X.K (slotsG tg) (trG tg)) (cT X.K tt) (cE X.K tk) (cE X.K tv) (slotsG tg) σ H Q := by
  obtain ⟨s, G, Q0, hs, hg, h, k⟩ := h
  refine ⟨s, G, _, hs, hg, h, fun ds ys G1 H1 J h1 hg1 e1 R => ?_⟩
  intro D hD
  obtain ⟨eD, gD⟩ := hg1.newDk (p := D) hD
  have h1 := h1 D (hg1.fresh hD)
  refine ⟨fun i m H2 => m = ys.length - i ∧ i ≤ ys.length ∧ Ext H1 H2 ∧ ∃ acc G2, HR X.K G2 H2 ∧ dcU ds D (fun y k G2 => trG tg y (wipeU s (slotsG tg)) G2 k) tt tk tv Q0 (ys.drop i) acc G2, ⟨_, rfl, Nat.zero_le _, eD, [], _, gD, h1⟩, ?_⟩
  rintro i m H2 ⟨rfl, hi, e2, acc, G2, hg2, h2⟩
  by_cases hlt : i < ys.length
  · rw [List.drop_eq_getElem_cons hlt] at h2
    simp only [dcU] at h2
    obtain ⟨d2, p2, h2⟩ := h2
    refine .inr ⟨R.go i G2 H2 hg2 d2 e2 hlt, fun H3 => Ext H1 H3 ∧ ∃ acc G3, HR X.K G3 H3 ∧ dcU ds D (fun y k G2 => trG tg y (wipeU s (slotsG tg)) G2 k) tt tk tv Q0 (ys.drop (i + 1)) acc G3, fun H' ⟨e', q'⟩ => ⟨_, by omega, rfl, hlt, e', q'⟩, fun x H3 y => ?_⟩
    obtain ⟨u, hu, ru, hg3, e3⟩ := R.yld i G2 H2 x H3 hg2 d2 e2 y hlt
    have eu : ys[i] = u := by
      rw [List.getElem?_eq_getElem hlt] at hu
      exact Option.some.inj hu
    rw [eu] at h2
    refine ⟨u, _, G2, _, ru, ((hs.ext (e1.trans (e2.trans e3)))).wipe _, hg3, h2, fun s4 G4 σ4 H4 h4 hs4 hg4 e4 l4 o4 => ?_⟩
    refine ⟨wipe_eq (by rw [l4, wipe_length]) o4, s4, G4, _, hs4, hg4, h4, fun b G5 H5 h5 hg5 e5 => ?_⟩
    have e15 : Ext H1 H5 := ((e2.trans e3).trans e4).trans e5
    cases b with
    | false =>
      simp only [Bool.false_eq_true, if_false] at h5 ⊢
      obtain ⟨G6, l6, h6⟩ := h5
      exact ⟨e15, acc, G6, hg5.le l6, h6⟩
    | true =>
      simp only [if_true] at h5 ⊢
      refine ⟨s4, G5, _, hs4.ext e5, hg5, h5, fun ku G6 v6 H6 h6 r6 hg6 e6 => ⟨s4, G6, _, hs4.ext (e5.trans e6), hg6, h6, fun w G7 v7 H7 h7 r7 hg7 e7 => ?_⟩⟩
      obtain ⟨p7, l7, kk, ek, G8, le8, h8⟩ := h7
      obtain ⟨xs, h9, r9⟩ := hg7.dK p7
      obtain ⟨e10, g10⟩ := hg7.setDk p7 (RKV.put (k := kk) r7 r9)
      exact ⟨xs, kk, key_rel r6 ek, h9, by rw [← r9.length]; exact l7, ((e15.trans e6).trans e7).trans e10, _, G8, g10.le le8, h8⟩
  · have ei : i = ys.length := by omega
    subst ei
    rw [List.drop_length] at h2
    simp only [dcU] at h2
    exact .inl ⟨R.stop G2 H2 hg2 h2.1 e2, k _ G2 _ H2 h2.2.2 (.ref D) hg2 (e1.trans e2)⟩
theorem lc2_conv {X : Cx} {tg tg1 : Tg} {it it1 : USt → UH → (Deps → List U → UH → Prop) → Prop} {tt tt1 : UTT} {te : UT} {σ : L2.St} {H : Hp} {Q : VK}
    (h : cE X.K (fun s G Q => it s G fun ds ys G1 => ∀ p, G1 p = none → lc2U ds p (fun y k G2 => trG tg y (wipeU s (slotsG tg ++ slotsG tg1)) G2 k) tt
      (fun s1 G2 acc K => it1 s1 G2 fun ds1 zs G3 => lcK ds1 p (fun z k G4 => trG tg1 z (wipeU s1 (slotsG tg1)) G4 k) tt1 te K zs acc G3) Q ys [] (up G1 p (.lst []))) σ H Q) :
    tLc2 (cI X.K it) (cG X.K (slotsG tg) (trG tg)) (cT X.K tt) (cI X.K it1) (cG X.K (slotsG tg1) (trG tg1)) (cT X.K tt1) (cE X.K te) (slotsG tg ++ slotsG tg1) (slotsG tg1) σ H Q := by
  obtain ⟨s, G, Q0, hs, hg, h, k⟩ := h
  refine ⟨s, G, _, hs, hg, h, fun ds ys G1 H1 J h1 hg1 e1 R => ?_⟩
  intro D hD
  obtain ⟨eD, gD⟩ := hg1.newLst (p := D) (ws := []) (ys := []) hD .nil
  have h1 := h1 D (hg1.fresh hD)
  generalize hin : (fun (s1 : USt) (G2 : UH) (acc : List U) (K : List U → UH → Prop) => it1 s1 G2 fun ds1 zs G3 => lcK ds1 D (fun z k G4 => trG tg1 z (wipeU s1 (slotsG tg1)) G4 k) tt1 te K zs acc G3) = inner at h1
  refine ⟨fun i m H2 => m = ys.length - i ∧ i ≤ ys.length ∧ Ext H1 H2 ∧ ∃ acc G2, HR X.K G2 H2 ∧ lc2U ds D (fun y k G2 => trG tg y (wipeU s (slotsG tg ++ slotsG tg1)) G2 k) tt inner Q0 (ys.drop i) acc G2, ⟨_, rfl, Nat.zero_le _, eD, [], _, gD, h1⟩, ?_⟩
  rintro i m H2 ⟨rfl, hi, e2, acc, G2, hg2, h2⟩
  by_cases hlt : i < ys.length
  · rw [List.drop_eq_getElem_cons hlt] at h2
    simp only [lc2U] at h2
    obtain ⟨d2, p2, h2⟩ := h2
    refine .inr ⟨R.go i G2 H2 hg2 d2 e2 hlt, fun H3 => Ext H1 H3 ∧ ∃ acc G3, HR X.K G3 H3 ∧ lc2U ds D (fun y k G2 => trG tg y (wipeU s (slotsG tg ++ slotsG tg1)) G2 k) tt inner Q0 (ys.drop (i + 1)) acc G3, fun H' ⟨e', q'⟩ => ⟨_, by omega, rfl, hlt, e', q'⟩, fun x H3 y => ?_⟩
    obtain ⟨u, hu, ru, hg3, e3⟩ := R.yld i G2 H2 x H3 hg2 d2 e2 y hlt
    have eu : ys[i] = u := by
      rw [List.getElem?_eq_getElem hlt] at hu
      exact Option.some.inj hu
    rw [eu] at h2
    refine ⟨u, _, G2, _, ru, ((hs.ext (e1.trans (e2.trans e3)))).wipe _, hg3, h2, fun s4 G4 σ4 H4 h4 hs4 hg4 e4 l4 o4 => ?_⟩
    refine ⟨wipe_eq (by rw [l4, wipe_length]) fun j hj => o4 j (fun z => hj (List.mem_append_left _ z)), s4, G4, _, hs4, hg4, h4, fun b G5 H5 h5 hg5 e5 => ?_⟩
    have e15 : Ext H1 H5 := ((e2.trans e3).trans e4).trans e5
    cases b with
    | false =>
      simp only [Bool.false_eq_true, if_false] at h5 ⊢
      obtain ⟨G6, l6, h6⟩ := h5
      exact ⟨e15, acc, G6, hg5.le l6, h6⟩
    | true =>
      simp only [if_true] at h5 ⊢
      rw [← hin] at h5
      refine ⟨s4, G5, _, hs4.ext e5, hg5, h5, fun ds1 zs G6 H6 J1 h6 hg6 e6 R1 => ?_⟩
      generalize hK : (fun (acc' : List U) (G3 : UH) => ∃ G4, Le G4 G3 ∧ lc2U ds D (fun y k G2 => trG tg y (wipeU s (slotsG tg ++ slotsG tg1)) G2 k) tt (fun (s1 : USt) (G2 : UH) (acc : List U) (K : List U → UH → Prop) => it1 s1 G2 fun ds1 zs G3 => lcK ds1 D (fun z k G4 => trG tg1 z (wipeU s1 (slotsG tg1)) G4 k) tt1 te K zs acc G3) Q0 (ys.drop (i + 1)) acc' G4) = K at h6
      refine ⟨fun j m H7 => m = zs.length - j ∧ j ≤ zs.length ∧ Ext H6 H7 ∧ ∃ acc G7, HR X.K G7 H7 ∧ lcK ds1 D (fun z k G4 => trG tg1 z (wipeU s4 (slotsG tg1)) G4 k) tt1 te K (zs.drop j) acc G7, ⟨_, rfl, Nat.zero_le _, .refl, acc, _, hg6, h6⟩, ?_⟩
      rintro j m H7 ⟨rfl, hj, e7, acc7, G7, hg7, h7⟩
      by_cases hlj : j < zs.length
      · rw [List.drop_eq_getElem_cons hlj] at h7
        simp only [lcK] at h7
        obtain ⟨d7, p7, h7⟩ := h7
        refine .inr ⟨R1.go j G7 H7 hg7 d7 e7 hlj, fun H8 => Ext H6 H8 ∧ ∃ acc G8, HR X.K G8 H8 ∧ lcK ds1 D (fun z k G4 => trG tg1 z (wipeU s4 (slotsG tg1)) G4 k) tt1 te K (zs.drop (j + 1)) acc G8, fun H' ⟨e', q'⟩ => ⟨_, by omega, rfl, hlj, e', q'⟩, fun x1 H8 y1 => ?_⟩
        obtain ⟨u1, hu1, ru1, hg8, e8⟩ := R1.yld j G7 H7 x1 H8 hg7 d7 e7 y1 hlj
        have eu1 : zs[j] = u1 := by
          rw [List.getElem?_eq_getElem hlj] at hu1
          exact Option.some.inj hu1
        rw [eu1] at h7
        refine ⟨u1, _, G7, _, ru1, ((hs4.ext (e5.trans (e6.trans (e7.trans e8))))).wipe _, hg8, h7, fun s9 G9 σ9 H9 h9 hs9 hg9 e9 l9 o9 => ?_⟩
        refine ⟨wipe_eq (by rw [l9, wipe_length]) o9, s9, G9, _, hs9, hg9, h9, fun b1 Ga Ha ha hga ea => ?_⟩
        have e6a : Ext H6 Ha := ((e7.trans e8).trans e9).trans ea
        cases b1 with
        | false =>
          simp only [Bool.false_eq_true, if_false] at ha ⊢
          obtain ⟨Gb, lb, hb⟩ := ha
          exact ⟨e6a, acc7, Gb, hga.le lb, hb⟩
        | true =>
          simp only [if_true] at ha ⊢
          refine ⟨s9, Ga, _, hs9.ext ea, hga, ha, fun w Gb vb Hb hb rb hgb eb => ?_⟩
          obtain ⟨pb, lb, Gc, lec, hc⟩ := hb
          obtain ⟨xs, hx, rx⟩ := hgb.lst pb
          obtain ⟨ed, gd⟩ := hgb.setLst pb (rx.append (.cons rb .nil))
          exact ⟨xs, hx, by rw [← rx.length]; exact lb, (e6a.trans eb).trans ed, _, Gc, gd.le lec, hc⟩
      · have ej : j = zs.length := by omega
        subst ej
        rw [List.drop_length] at h7
        simp only [lcK] at h7
        obtain ⟨d7, p7, h7⟩ := h7
        rw [← hK] at h7
        obtain ⟨G8, l8, h8⟩ := h7
        rw [← hin]
        exact .inl ⟨R1.stop G7 H7 hg7 d7 e7, (e15.trans e6).trans e7, acc7, G8, hg7.le l8, h8⟩
  · have ei : i = ys.length := by omega
    subst ei
    rw [List.drop_length] at h2
    simp only [lc2U] at h2
    exact .inl ⟨R.stop G2 H2 hg2 h2.1 e2, k _ G2 _ H2 h2.2.2 (.ref D) hg2 (e1.trans e2)⟩
end
end UL
set_option Elab.async false
set_option linter.all false
set_option autoImplicit false
set_option maxRecDepth 100000
set_option maxHeartbeats 4000000
/-! ULx: the exception that is handled: its fields, its classes. -/
namespace UL
open PySem PySem.Spec L2
section
variable {X : Cx} {c : XcI}
theorem xc_inst {pins : List (Addr × Obj)} {σ : L2.St} {H : Hp} {s : Shared} {oe : Obj} {C : Addr} {xs : List (Str × V)} (I : Inv X pins σ H s) (hp : (c.a, oe) ∈ X.pn) (hz : Zc (.ref C) (some c.dx) oe) (hd : ∃ vs, oe.data = .fields vs) (h1 : H c.dx = some (.xd xs)) :
    ∃ (od : Obj) (mA : Str → Option Value), PySem.W.InstAt s.heap c.a oe C (some od) ∧ (∀ f, PySem.W.lookIn f od = some (mA f)) ∧ ∀ f, RelO (xs.lookup f) (mA f) := by
  obtain ⟨at1, _⟩ := I.pin (c.a, oe) (List.mem_append_left _ hp)
  obtain ⟨ws, hd⟩ := hd
  obtain ⟨mA, hns, hr⟩ := (show ObjOk X.prog X.w H s.heap c.dx (.xd xs) from I.hok c.dx _ h1)
  obtain ⟨od, ho, hlk⟩ := lookIn_ns hns
  exact ⟨od, mA, ⟨at1, hz.1, by unfold PySem.W.notCls; rw [hd] <;> rfl, by rw [hz.2]; exact ho⟩, fun f => hlk f, hr⟩
theorem pe_xf {o : Expr} {f : Str} {pos : Pos} {to : UT} (hc : XcIn X c) (he : PE X o (cE X.K to)) (hp : plainO o = true) : PE X (.Attribute o f pos) (cE X.K fun s G Q => to s G fun x G1 => uXf (some c) f x G1 Q) := by
  refine ⟨fun pins s σ H Q I h => ?_⟩
  obtain ⟨s0, G, Q0, hs, hg, h, k⟩ := h
  refine attr_of (plain_o hp) (thn (he.run pins s σ H (fun v H1 => ∃ x G1, uXf (some c) f x G1 Q0 ∧ RU X.K H1 x v ∧ HR X.K G1 H1 ∧ Ext H H1) I ⟨s0, G, _, hs, hg, h, fun x G1 v H1 q r g e => ⟨x, G1, q, r, g, e⟩⟩) fun w s1 ⟨v, H1, I1, rv, x, G1, q, r, g, e⟩ => ?_)
  unfold uXf at q
  obtain ⟨rfl, hf, q⟩ := q
  cases r
  obtain rfl : w = Value.ref c.a := rv
  split at q
  · rename_i fs e1
    obtain ⟨xs, h1, r1⟩ := g c.dx _ e1
    rcases RKV.look (f := f) r1 with ⟨l1, _⟩ | ⟨u, v, l1, l2, ru⟩
    · rw [l1] at q
      exact q.elim
    · rw [l1] at q
      obtain ⟨oe, C, hp, hz, hd, T, _⟩ := hc
      obtain ⟨od, mA, J, hlk, hr⟩ := xc_inst I1 hp hz hd h1
      obtain ⟨w, hw, rw'⟩ := RelO.some_of (v := v) (o := mA f) (by rw [← l2]; exact hr f)
      exact HandSPX.exc_get I1.kIn J T.ga T.gg T.exC (PySem.W.findObj_own T.hdC (T.noN f (by simpa using hf)) rfl (by rw [hlk, hw])) (handed_of rw') ⟨v, H1, I1.tok _, rw', k u G1 v H1 q ru g e⟩
  · exact q.elim
def rIsX (X : Cx) (c : XcI) (C : Addr) (cv : Value) : List V → Hp → VK → Prop := fun xs H Q => ∃ (v : V) (b : Bool) (fs : List (Str × V)), xs = [.ref c.a, v] ∧ (∀ u, RelV v u → u = cv) ∧ PySem.W.kitOne X.K (.ref C) cv = some b ∧ H c.dx = some (.xd fs) ∧ Q (.bl b) H
theorem call_isX {oe : Obj} {C : Addr} {cv : Value} (hp : (c.a, oe) ∈ X.pn) (hz : Zc (.ref C) (some c.dx) oe) (hd : ∃ vs, oe.data = .fields vs) (T : XcCls X.K C c.fs) (S : XcIs X.K C) : CallR X (.builtin "isinstance") (rIsX X c C cv) := by
  intro pins s σ H xs us Q I r h
  obtain ⟨v, b, fs, rfl, hv, e, h1, q⟩ := h
  cases r with
  | cons rx rr =>
    cases rr with
    | cons ry rr =>
      cases rr
      cases rx
      have ec := hv _ ry
      subst ec
      obtain ⟨od, mA, J, _⟩ := xc_inst I hp hz hd h1
      obtain ⟨cd, hcl, _⟩ := PySem.W.any_some T.hdC
      exact PySem.W.kia_one (PySem.W.kitx_exc (by rw [hcl]; rfl) T.ga T.gg T.exC S.ha S.hn S.ht S.hm) I.kIn J e (fun z => nomatch z) fun tk => ⟨.bl b, H, I.kept (t' := tk) fun _ _ z => z, rfl, q⟩
theorem pe_xi {y : Str} {a : Expr} {p p2 pos : Pos} {to : UT} {b : Bool} (ek : c.kin y = some b) (hc : XcIn X c) (he : PE X a (cE X.K to)) (hg : Gl X "isinstance") (hm : X.mg "isinstance" = none) (hy : Gl X y) (st : notStar a = true) :
    PE X (.Call (.Name "isinstance" p) [a, .Name y p2] [] pos) (cE X.K fun s G Q => to s G fun x G1 => uXi (some c) y x G1 Q) := by
  obtain ⟨oe, C, hp, hz, hd, T, hk⟩ := hc
  obtain ⟨S, cv, ⟨db, hv⟩, hb⟩ := hk y b ek
  have key : ∀ v : V, (∀ u, RelV v u → u = cv) → PE X (.Name y p2) (tC v) → PE X (.Call (.Name "isinstance" p) [a, .Name y p2] [] pos) (cE X.K fun s G Q => to s G fun x G1 => uXi (some c) y x G1 Q) := fun v hv P => by
    refine PE.weak (pe_callB (call_isX (cv := cv) hp hz hd T S) hg hm (by decide +kernel) (pa_cons he (pa_cons P pa_nil rfl) (star_each st)) (by decide) (by decide) (star_each st) rfl) fun σ H Q q => ?_
    obtain ⟨s, G, Q0, hs, hg, q, k⟩ := q
    refine ⟨s, G, _, hs, hg, q, fun x G1 v1 H1 q1 r1 g1 e1 => ?_⟩
    unfold uXi at q1
    obtain ⟨rfl, ⟨fs, e2⟩, q1⟩ := q1
    rw [ek] at q1
    cases r1
    obtain ⟨xs, h1, _⟩ := g1 c.dx _ e2
    exact ⟨v, b, xs, rfl, hv, hb, h1, k _ G1 _ H1 q1 (.bl b) g1 e1⟩
  rcases hv with ⟨hmy, C', rfl⟩ | ⟨rfl, hmy, rfl⟩
  · exact key (.ref C') (fun u r => r) (pe_glob hy hmy rfl db)
  · exact key (.ty "ValueError") (fun u r => r) (pe_bltn (v := .ty "ValueError") hy hmy (by decide +kernel) rfl (by decide) db)
end
def cJ (K : PySem.W.Frag) (t : USt → UH → (Str → UH → Prop) → Prop) : L2.St → Hp → (Str → Hp → Prop) → Prop := fun σ H Q => ∃ s G Q0, SR K H s σ ∧ HR K G H ∧ t s G Q0 ∧ ∀ x G' H', Q0 x G' → HR K G' H' → Ext H H' → Q x H'
theorem cFmt {K : PySem.W.Frag} {ta : UT} {σ : L2.St} {H : Hp} {Q : VK} (h : cE K (fun s G Q => ta s G fun x G1 => uFmt x G1 Q) σ H Q) : tFmt (cE K ta) σ H Q := by
  obtain ⟨s, G, Q0, hs, hg, q, k⟩ := h
  refine ⟨s, G, _, hs, hg, q, fun u G1 v H1 q1 r1 g1 e1 => ?_⟩
  unfold uFmt at q1
  split at q1
  · cases r1
    exact .inl ⟨_, rfl, q1.1, k _ G1 _ H1 q1.2 (.str _) g1 e1⟩
  · cases r1
    exact .inr ⟨_, rfl, q1.1, k _ G1 _ H1 q1.2 (.str _) g1 e1⟩
  · exact q1.elim
end UL
set_option Elab.async false
set_option linter.all false
set_option autoImplicit false
set_option maxRecDepth 100000
set_option maxHeartbeats 4000000
/-! UL11: soundness of expressions. -/
namespace UL
open PySem PySem.Spec L2
theorem last2 {o p : CmpOp} {b c : Expr} (h : notSet c = true) : lastMarks [o, p] [b, c] = false := by
  show behindInMarks p c = false
  exact nomark' h
theorem call_xr {K : PySem.W.Frag} {mg : Str → Option Value} {tb : Tab} {sp : USp} {W : UW} {s : USt} {σ : L2.St} {us : List U} {G : UH} {vs : List V} {H H0 : Hp} {Q : VK} {Q0 : UK}
    (hs : SR K H s σ) (hg : HR K G H) (r : RUs K H us vs) (e0 : Ext H0 H) (h : sp us G Q0 fun xn G2 => W xn s G2)
    (k : ∀ u G' v H', Q0 u G' → RU K H' u v → HR K G' H' → Ext H0 H' → Q v H') : cSp K mg tb sp (vs ++ []) H Q (WE (cW K mg tb W) σ) := by
  rw [List.append_nil]
  exact ⟨us, G, Q0, _, r, hg, h, fun u G' v H' q r' g' e' => k u G' v H' q r' g' (e0.trans e'), fun xn G' cls d H' q x g' e' => ⟨xn, s, G', hs.ext e', g', x, q⟩⟩
theorem cmp_chain {K : PySem.W.Frag} {o1 o2 : CmpOp} {ta tb tc : UT} {σ : L2.St} {H : Hp} {Q : VK}
    (h : cE K (fun s G Q => ta s G fun x G1 => tb s G1 fun y G2 => uCmp o1 x y G2 fun z G3 => match z with
    | .bl k => if k = true then tc s G3 fun w G4 => uCmp o2 y w G4 Q else Q (.bl false) G3
    | _ => False) σ H Q) : tChain (c2 K (uCmp o1)) (c2 K (uCmp o2)) (cE K ta) (cE K tb) (cE K tc) σ H Q := by
  obtain ⟨s, G, Q0, hs, hg, h, k⟩ := h
  refine ⟨s, G, _, hs, hg, h, fun x G1 v H1 h1 r1 g1 e1 => ⟨s, G1, _, hs.ext e1, g1, h1, fun y G2 v2 H2 h2 r2 g2 e2 => ?_⟩⟩
  refine ⟨x, y, G2, _, RU.ext e2 r1, r2, g2, h2, fun z G3 v3 H3 h3 r3 g3 e3 => ?_⟩
  split at h3
  · rename_i kk
    cases r3
    refine ⟨kk, rfl, ?_⟩
    cases kk with
    | false => simp only [Bool.false_eq_true, if_false] at h3 ⊢; exact k _ G3 _ H3 h3 (.bl _) g3 ((e1.trans e2).trans e3)
    | true =>
      simp only [if_true] at h3 ⊢
      refine ⟨s, G3, _, hs.ext ((e1.trans e2).trans e3), g3, h3, fun w G4 v4 H4 h4 r4 g4 e4 => ?_⟩
      exact ⟨y, w, G4, Q0, RU.ext (e3.trans e4) r2, r4, g4, h4, fun z5 G5 v5 H5 h5 r5 g5 e5 => k z5 G5 v5 H5 h5 r5 g5 ((((e1.trans e2).trans e3).trans e4).trans e5)⟩
  · exact h3.elim
theorem cmp_chainT {K : PySem.W.Frag} {o1 o2 : CmpOp} {ta tb tc : UT} {σ : L2.St} {H : Hp} {Q : Bool → Hp → Prop}
    (h : cT K (fun s G Q => ta s G fun x G1 => tb s G1 fun y G2 => uCmp o1 x y G2 fun z G3 => match z with
    | .bl k => if k = true then tc s G3 fun w G4 => uCmp o2 y w G4 fun z2 G5 => (match z2 with
        | .bl k2 => Q k2 G5
        | _ => False) else Q false G3
    | _ => False) σ H Q) : tTest (tChain (c2 K (uCmp o1)) (c2 K (uCmp o2)) (cE K ta) (cE K tb) (cE K tc)) σ H Q := by
  obtain ⟨s, G, Q0, hs, hg, h, k⟩ := h
  refine ⟨s, G, _, hs, hg, h, fun x G1 v H1 h1 r1 g1 e1 => ⟨s, G1, _, hs.ext e1, g1, h1, fun y G2 v2 H2 h2 r2 g2 e2 => ?_⟩⟩
  refine ⟨x, y, G2, _, RU.ext e2 r1, r2, g2, h2, fun z G3 v3 H3 h3 r3 g3 e3 => ?_⟩
  split at h3
  · rename_i kk
    cases r3
    refine ⟨kk, rfl, ?_⟩
    cases kk with
    | false => simp only [Bool.false_eq_true, if_false] at h3 ⊢; exact ⟨false, rfl, k _ G3 H3 h3 g3 ((e1.trans e2).trans e3)⟩
    | true =>
      simp only [if_true] at h3 ⊢
      refine ⟨s, G3, _, hs.ext ((e1.trans e2).trans e3), g3, h3, fun w G4 v4 H4 h4 r4 g4 e4 => ?_⟩
      refine ⟨y, w, G4, _, RU.ext (e3.trans e4) r2, r4, g4, h4, fun z5 G5 v5 H5 h5 r5 g5 e5 => ?_⟩
      split at h5
      · cases r5
        exact ⟨_, rfl, k _ G5 H5 h5 g5 ((((e1.trans e2).trans e3).trans e4).trans e5)⟩
      · exact h5.elim
  · exact h3.elim
theorem pt_plain {X : Cx} {e : Expr} {t : UT} (h : plainT e = true) (p : PE X e (cE X.K t)) : PT X e (cT X.K fun s G Q => t s G fun x G1 => uTru x G1 Q) := by
  refine PT.weak (pt_truth p (plain_t h)) fun σ H Q q => ?_
  obtain ⟨s, G, Q0, hs, hg, q, k⟩ := q
  refine ⟨s, G, _, hs, hg, q, fun x G1 v H1 q1 r1 g1 e1 => ?_⟩
  obtain ⟨kk, e2, q2⟩ := tru_u g1 r1 q1
  exact ⟨kk, e2, k _ G1 H1 q2 g1 e1⟩
theorem one_a {X : Cx} {y : Expr} {t : UT} (p : PE X y (cE X.K t)) (n : notStar y = true) : PA X [y] (cA X.K fun s G Q => t s G fun u G1 => Q [u] G1) := by
  refine PA.weak (pa_cons p pa_nil (star_each n)) fun σ H Q q => ?_
  obtain ⟨s, G, Q0, hs, hg, q, k⟩ := q
  exact ⟨s, G, _, hs, hg, q, fun u G1 v H1 q1 r1 g1 e1 => k _ G1 _ H1 q1 (.cons r1 .nil) g1 e1⟩
theorem two_a {X : Cx} {y z : Expr} {t u : UT} (p : PE X y (cE X.K t)) (p2 : PE X z (cE X.K u)) (n : notStar y = true) (n2 : notStar z = true) : PA X [y, z] (cA X.K fun s G Q => t s G fun x G1 => u s G1 fun w G2 => Q [x, w] G2) := by
  refine PA.weak (pa_cons p (pa_cons p2 pa_nil (star_each n2)) (star_each n)) fun σ H Q q => ?_
  obtain ⟨s, G, Q0, hs, hg, q, k⟩ := q
  refine ⟨s, G, _, hs, hg, q, fun u G1 v H1 q1 r1 g1 e1 => ⟨s, G1, _, hs.ext e1, g1, q1, fun u2 G2 v2 H2 q2 r2 g2 e2 => ?_⟩⟩
  exact k _ G2 _ H2 q2 (.cons (RU.ext e2 r1) (.cons r2 .nil)) g2 (e1.trans e2)
theorem three_a {X : Cx} {y z w : Expr} {t u o : UT} (p : PE X y (cE X.K t)) (p2 : PE X z (cE X.K u)) (p3 : PE X w (cE X.K o)) (n : notStar y = true) (n2 : notStar z = true) (n3 : notStar w = true) :
    PA X [y, z, w] (cA X.K fun s G Q => t s G fun x G1 => u s G1 fun w G2 => o s G2 fun v G3 => Q [x, w, v] G3) := by
  refine PA.weak (pa_cons p (pa_cons p2 (pa_cons p3 pa_nil (star_each n3)) (star_each n2)) (star_each n)) fun σ H Q q => ?_
  obtain ⟨s, G, Q0, hs, hg, q, k⟩ := q
  refine ⟨s, G, _, hs, hg, q, fun u G1 v H1 q1 r1 g1 e1 => ⟨s, G1, _, hs.ext e1, g1, q1, fun u2 G2 v2 H2 q2 r2 g2 e2 => ⟨s, G2, _, hs.ext (e1.trans e2), g2, q2, fun u3 G3 v3 H3 q3 r3 g3 e3 => ?_⟩⟩⟩
  exact k _ G3 _ H3 q3 (.cons (RU.ext (e2.trans e3) r1) (.cons (RU.ext e3 r2) (.cons r3 .nil))) g3 ((e1.trans e2).trans e3)
theorem rlen_eq {i j c : Int} (h3 : 0 < c) : Builtin.Range.rangeSize i j c = (rlen i j c : Int) := by
  have hc : ¬ (c = 0) := by omega
  unfold Builtin.Range.rangeSize rlen
  rw [if_pos h3]
  have e1 : j - i + c - 1 = (j - i - 1) + c := by omega
  rw [e1, show (j - i - 1) + c = (j - i - 1) + c * 1 by omega, Int.add_mul_ediv_left _ _ hc]
  split
  · rename_i h
    have : 0 ≤ (j - i - 1) / c := Int.ediv_nonneg (by omega) (by omega)
    omega
  · rename_i h
    have : (j - i - 1) / c < 0 := Int.ediv_neg_of_neg_of_pos (by omega) h3
    omega
theorem rlen_le {i j c : Int} (h3 : 0 < c) : (rlen i j c : Int) ≤ (j - i).toNat := by
  unfold rlen
  have hc : ¬ (c = 0) := by omega
  have e1 : j - i + c - 1 = (j - i - 1) + c * 1 := by omega
  rw [e1, Int.add_mul_ediv_left _ _ hc]
  have : (j - i - 1) / c ≤ max (j - i - 1) (-1) := by
    by_cases h : 0 ≤ j - i - 1
    · have := Int.ediv_le_self c h
      omega
    · have : (j - i - 1) / c < 0 := Int.ediv_neg_of_neg_of_pos (by omega) h3
      omega
  omega
theorem rg_ok {i j c : Int} (h1 : small62 i) (h2 : small62 j) (h3 : 0 < c) (h4 : c < 1073741824) : RgC i j c (rlen i j c) := by
  unfold small62 at h1 h2
  refine ⟨by omega, by omega, ?_, rlen_eq h3⟩
  have l := rlen_le (i := i) (j := j) h3
  have hm : (rlen i j c : Int) * c ≤ (j - i).toNat + c := by
    by_cases h : i < j
    · have e := rlen_eq (i := i) (j := j) h3
      unfold Builtin.Range.rangeSize at e
      rw [if_pos h3, if_pos h] at e
      rw [← e, Int.add_mul, Int.one_mul]
      have := Int.ediv_mul_le (j - i - 1) (by omega : c ≠ 0)
      omega
    · have e := rlen_eq (i := i) (j := j) h3
      unfold Builtin.Range.rangeSize at e
      rw [if_pos h3, if_neg h] at e
      rw [← e]; omega
  unfold Builtin.Range.small
  rw [rlen_eq h3]
  simp only [Builtin.Range.rangeFitsLong, Bool.and_eq_true, Bool.or_eq_true, decide_eq_true_eq, beq_iff_eq, show c > 0 from h3, if_true]
  generalize hz : (rlen i j c : Int) * c = z at *
  omega
/-- a tuple, a list or a text: told when it is there -/
theorem pi_any {X : Cx} {tg l : Expr} {tl : TE} (hl : PE X l tl) : PI X tg l (fun σ H R => tl σ H fun x H1 => (∃ z, x = .str z ∧ R (Its z) H1) ∨ (∃ a, x = .ref a ∧ (∃ xs, SqL X.K H1 a xs) ∧ R (Itl X.K a) H1) ∨ ∃ a, x = .ref a ∧ (∃ xs, SqT X.K H1 a xs) ∧ R (Itt X.K a) H1) := by
  refine ⟨fun pins s σ H R I h => thn (hl.run pins s σ H _ I h) fun v s1 ⟨x, H1, I1, r1, q1⟩ => ?_⟩
  rcases q1 with ⟨z, e, q⟩ | ⟨a, e, ⟨xs, hq⟩, q⟩ | ⟨a, e, ⟨xs, hq⟩, q⟩ <;> subst e
  · obtain ⟨t, rfl⟩ := r1
    cases ha : z.cps.all (· < 128)
    · exact wpAny_pyIter_wide ha (pi_one (tk := s1.toks) I1 _ (turn_str _ z t "str_iterator" (.inr rfl)) ⟨_, Heap.get?_push_size _ rfl, rfl, rfl⟩ q)
    · exact wpAny_pyIter_ascii ha (pi_one (tk := s1.toks) I1 _ (turn_str _ z t "str_ascii_iterator" (.inl rfl)) ⟨_, Heap.get?_push_size _ rfl, rfl, rfl⟩ q)
  · cases r1
    obtain ⟨its, rv, p, hz⟩ := I1.list hq
    exact wpAny_pyIter_list p.isList (pi_one (tk := s1.toks) I1 _ (turn_list a _) ⟨_, Heap.get?_push_size _ rfl, rfl, rfl⟩ q)
  · cases r1
    obtain ⟨its, rv, p, hz⟩ := I1.tuple hq
    exact wpAny_pyIter_tuple (show s1.heap.IsTuple a its.toArray from p) (pi_one (tk := s1.toks) I1 _ (turn_tuple a _) ⟨_, Heap.get?_push_size _ rfl, rfl, rfl⟩ q)
theorem val_ok {X : Cx} {tg e : Expr} {t : UT} (p : PE X e (cE X.K t)) : PI X tg e (cI X.K fun s G R => t s G fun x G1 => match x with
    | .str z => R [] (z.cps.toList.map fun c => U.str ⟨#[c]⟩) G1
    | x => seqOf x G1 fun ds us => R ds us G1) := by
  refine PI.weak (pi_any p) fun σ H R q => ?_
  obtain ⟨s, G, R0, hs, hg, q, k⟩ := q
  refine ⟨s, G, _, hs, hg, q, fun u G1 v H1 q1 r1 g1 e1 => ?_⟩
  split at q1
  · cases r1
    exact .inl ⟨_, rfl, k _ _ _ _ _ q1 g1 e1 (it_str _)⟩
  · obtain ⟨kk, a, xs, ds, us, rfl, hq, q2, dk, st⟩ := seq_of g1 r1 q1
    have ir : ItRel X.K H1 (match kk with | true => Itt X.K a | false => Itl X.K a) ds us := by
      cases kk
      · refine ⟨fun i G H hg d e hi => ?_, fun i G H x H' hg d e y hi => ?_, fun G H hg d e => ?_⟩
        · obtain ⟨ys, h1, r⟩ := st G H hg d e
          rw [r.length] at hi
          exact ⟨ys, ys[i], h1, by simp [hi]⟩
        · obtain ⟨ys, h1, r⟩ := st G H hg d e
          obtain ⟨rfl, y⟩ := y
          obtain ⟨u, h2, h3⟩ := r.get' (y ys h1)
          exact ⟨u, h2, h3, hg, .refl⟩
        · obtain ⟨ys, h1, r⟩ := st G H hg d e
          exact ⟨ys, h1, by rw [r.length]; exact Nat.le_refl _⟩
      · refine ⟨fun i G H hg d e hi => ?_, fun i G H x H' hg d e y hi => ?_, fun G H hg d e => ?_⟩
        · obtain ⟨ys, h1, r⟩ := st G H hg d e
          rw [r.length] at hi
          exact ⟨ys, ys[i], h1, by simp [hi]⟩
        · obtain ⟨ys, h1, r⟩ := st G H hg d e
          obtain ⟨rfl, y⟩ := y
          obtain ⟨u, h2, h3⟩ := r.get' (y ys h1)
          exact ⟨u, h2, h3, hg, .refl⟩
        · obtain ⟨ys, h1, r⟩ := st G H hg d e
          exact ⟨ys, h1, by rw [r.length]; exact Nat.le_refl _⟩
    have q3 := k _ _ _ _ _ q2 g1 e1 ir
    cases kk
    · exact .inr (.inl ⟨a, rfl, ⟨xs, hq⟩, q3⟩)
    · exact .inr (.inr ⟨a, rfl, ⟨xs, hq⟩, q3⟩)
section
variable {tb : Tab} {Γ : Gam}
mutual
theorem sE : ∀ (e : Ex) {X : Cx} {sc : Scope}, CtxOk X sc tb Γ → ∀ (W : UW), L2N.Takes X (cW X.K X.mg tb W) → ∀ ex : Expr, chkE X.N sc tb e ex = true → PE X ex (cE X.K (trE Γ W e))
  | .var i, X, sc, C, W, tk, ex, h => by
    unfold chkE at h
    split at h
    · simp only [Bool.and_eq_true, decide_eq_true_eq, Bool.not_eq_true'] at h
      obtain ⟨⟨⟨h1, h2⟩, h3⟩, h4⟩ := h
      exact PE.weak (pe_var h1 (C.sco.vis _ h2) h3 h4) fun σ H Q => cVar
    · cases h
  | .int i, X, sc, C, W, tk, ex, h => by
    unfold chkE at h
    split at h
    · rw [decide_eq_true_eq] at h
      subst h
      exact PE.weak pe_int fun σ H Q q => cC (fun _ => .int _) q
    · cases h
  | .bl i, X, sc, C, W, tk, ex, h => by
    unfold chkE at h
    split at h
    · rw [decide_eq_true_eq] at h
      subst h
      exact PE.weak pe_bl fun σ H Q q => cC (fun _ => .bl _) q
    · cases h
  | .non, X, sc, C, W, tk, ex, h => by
    unfold chkE at h
    split at h
    · exact PE.weak pe_non fun σ H Q q => cC (fun _ => .non) q
    · cases h
  | .str i, X, sc, C, W, tk, ex, h => by
    unfold chkE at h
    split at h
    · rw [decide_eq_true_eq] at h
      subst h
      exact PE.weak pe_str fun σ H Q q => cC (fun _ => .str _) q
    · cases h
  | .gl i, X, sc, C, W, tk, ex, h => by
    unfold chkE at h
    split at h
    · simp only [Bool.and_eq_true, decide_eq_true_eq] at h
      obtain ⟨w, v, hm, r, ru, db⟩ := C.gls i _ h.1
      exact PE.weak (pe_glob (C.sco.gl _ h.2) hm r db) fun σ H Q q => cC ru q
    · cases h
  | .ty n, X, sc, C, W, tk, ex, h => by
    unfold chkE at h
    split at h
    · simp only [Bool.and_eq_true, decide_eq_true_eq, Bool.not_eq_true'] at h
      obtain ⟨⟨⟨⟨h1, h2⟩, h3⟩, h4⟩, h5⟩ := h
      exact PE.weak (pe_bltn (v := .ty n) (C.sco.gl _ h1) (C.blt _ h2) h3 rfl h4 h5) fun σ H Q q => cC (fun _ => .ty n) q
    · cases h
  | .bin op a b, X, sc, C, W, tk, ex, h => by
    unfold chkE at h
    split at h
    · simp only [Bool.and_eq_true, decide_eq_true_eq] at h
      obtain ⟨⟨h1, h2⟩, h3⟩ := h
      subst h1
      exact PE.weak (pe_op (op_any op) (sE a C W tk _ h2) (sE b C W tk _ h3)) fun σ H Q => cOp
    · cases h
  | .neg a, X, sc, C, W, tk, ex, h => by
    unfold chkE at h
    split at h
    · exact PE.weak (pe_un un_uNeg (sE a C W tk _ h)) fun σ H Q q => cUn (r := uNeg) (ta := trE Γ W a) q
    · cases h
  | .not a, X, sc, C, W, tk, ex, h => by
    unfold chkE at h
    split at h
    · refine PE.weak (pe_notT (sE a C W tk _ h)) fun σ H Q q => ?_
      obtain ⟨s, G, Q0, hs, hg, q, k⟩ := q
      refine ⟨s, G, _, hs, hg, q, fun x G1 v H1 h1 r1 g1 e1 => ?_⟩
      obtain ⟨kk, e2, q2⟩ := tru_u g1 r1 h1
      exact ⟨kk, e2, k _ G1 _ H1 q2 (.bl _) g1 e1⟩
    · cases h
  | .cmp op a b, X, sc, C, W, tk, ex, h => by
    unfold chkE at h
    split at h
    · simp only [Bool.and_eq_true, decide_eq_true_eq] at h
      obtain ⟨⟨⟨h1, h2⟩, h3⟩, h4⟩ := h
      subst h1
      exact PE.weak (pe_cmpR (cmp_any C.hu op) (sE a C W tk _ h3) (sE b C W tk _ h4) (nomark' h2)) fun σ H Q => cOp
    · cases h
  | .chain o1 o2 a b c, X, sc, C, W, tk, ex, h => by
    unfold chkE at h
    split at h
    · simp only [Bool.and_eq_true, decide_eq_true_eq] at h
      obtain ⟨⟨⟨⟨⟨⟨h1, h2⟩, h3⟩, h4⟩, h5⟩, h6⟩, h7⟩ := h
      subst h1 h2
      exact PE.weak (pe_chain (cmp_any C.hu o1) (cmp_any C.hu o2) (sE a C W tk _ h5) (sE b C W tk _ h6) (sE c C W tk _ h7) (last2 h4)) fun σ H Q => cmp_chain
    · cases h
  | .and a b, X, sc, C, W, tk, ex, h => by
    unfold chkE at h
    split at h
    · rename_i x y rest pos
      simp only [Bool.and_eq_true] at h
      obtain ⟨h1, h2⟩ := h
      have hb : PE X (.BoolOp .And (y :: rest) pos) (cE X.K (trE Γ W b)) := by
        split at h2
        · exact pe_one (sE b C W tk _ h2)
        · exact sE b C W tk _ h2
      refine PE.weak (pe_andT (sE a C W tk _ h1) hb) fun σ H Q q => ?_
      obtain ⟨s, G, Q0, hs, hg, q, k⟩ := q
      refine ⟨s, G, _, hs, hg, q, fun x G1 v H1 h1 r1 g1 e1 => ?_⟩
      obtain ⟨kk, e2, q2⟩ := tru_u g1 r1 h1
      refine ⟨kk, e2, ?_⟩
      cases kk with
      | false => simp only [Bool.false_eq_true, if_false] at q2 ⊢; exact k _ G1 _ H1 q2 r1 g1 e1
      | true =>
        simp only [if_true] at q2 ⊢
        exact ⟨s, G1, Q0, hs.ext e1, g1, q2, fun u G' v H' q' r' g' e' => k u G' v H' q' r' g' (e1.trans e')⟩
    · cases h
  | .or a b, X, sc, C, W, tk, ex, h => by
    unfold chkE at h
    split at h
    · rename_i x y rest pos
      simp only [Bool.and_eq_true] at h
      obtain ⟨h1, h2⟩ := h
      have hb : PE X (.BoolOp .Or (y :: rest) pos) (cE X.K (trE Γ W b)) := by
        split at h2
        · exact pe_one (sE b C W tk _ h2)
        · exact sE b C W tk _ h2
      refine PE.weak (pe_orT (sE a C W tk _ h1) hb) fun σ H Q q => ?_
      obtain ⟨s, G, Q0, hs, hg, q, k⟩ := q
      refine ⟨s, G, _, hs, hg, q, fun x G1 v H1 h1 r1 g1 e1 => ?_⟩
      obtain ⟨kk, e2, q2⟩ := tru_u g1 r1 h1
      refine ⟨kk, e2, ?_⟩
      cases kk with
      | true => simp only [if_true] at q2 ⊢; exact k _ G1 _ H1 q2 r1 g1 e1
      | false =>
        simp only [Bool.false_eq_true, if_false] at q2 ⊢
        exact ⟨s, G1, Q0, hs.ext e1, g1, q2, fun u G' v H' q' r' g' e' => k u G' v H' q' r' g' (e1.trans e')⟩
    · cases h
  | .ife c a b, X, sc, C, W, tk, ex, h => by
    unfold chkE at h
    split at h
    · simp only [Bool.and_eq_true] at h
      obtain ⟨⟨h1, h2⟩, h3⟩ := h
      refine PE.weak (pe_ifExp (sT c C W tk _ h1) (sE a C W tk _ h2) (sE b C W tk _ h3)) fun σ H Q q => ?_
      obtain ⟨s, G, Q0, hs, hg, q, k⟩ := q
      refine ⟨s, G, _, hs, hg, q, fun kk G1 H1 q1 g1 e1 => ?_⟩
      cases kk with
      | true =>
        simp only [if_true] at q1 ⊢
        exact ⟨s, G1, Q0, hs.ext e1, g1, q1, fun u G' v H' q' r' g' e' => k u G' v H' q' r' g' (e1.trans e')⟩
      | false =>
        simp only [Bool.false_eq_true, if_false] at q1 ⊢
        exact ⟨s, G1, Q0, hs.ext e1, g1, q1, fun u G' v H' q' r' g' e' => k u G' v H' q' r' g' (e1.trans e')⟩
    · cases h
  | .tup es, X, sc, C, W, tk, ex, h => by
    unfold chkE at h
    split at h
    · refine PE.weak (pe_tup (sA es C W tk _ h)) fun σ H Q q => ?_
      obtain ⟨s, G, Q0, hs, hg, q, k⟩ := q
      refine ⟨s, G, _, hs, hg, q, fun us G1 vs H1 q1 r1 g1 e1 => ⟨by rw [← r1.length]; exact q1.1, fun p hp => ?_⟩⟩
      obtain ⟨e2, g2, r2⟩ := g1.newTup hp r1
      exact k _ G1 _ _ q1.2 r2 g2 (e1.trans e2)
    · cases h
  | .lst es, X, sc, C, W, tk, ex, h => by
    unfold chkE at h
    split at h
    · refine PE.weak (pe_lst (sA es C W tk _ h)) fun σ H Q q => ?_
      obtain ⟨s, G, Q0, hs, hg, q, k⟩ := q
      refine ⟨s, G, _, hs, hg, q, fun us G1 vs H1 q1 r1 g1 e1 => ⟨by rw [← r1.length]; exact q1.1, fun p hp => ?_⟩⟩
      obtain ⟨e2, g2⟩ := g1.newLst hp r1
      exact k _ _ _ _ (q1.2 p (g1.fresh hp)) (.ref p) g2 (e1.trans e2)
    · cases h
  | .call f es, X, sc, C, W, tk, ex, h => by
    unfold chkE at h
    split at h
    · simp only [Bool.and_eq_true, decide_eq_true_eq] at h
      obtain ⟨⟨⟨h1, h1'⟩, h2⟩, h3⟩ := h
      have st := chkA_star h3
      simp only [List.all_cons, Bool.and_eq_true] at st
      cases hh : tb.hot with
      | true =>
        obtain ⟨⟨k0, fa, fd, ps, hm, kp, hr, hb, F⟩, db⟩ := C.fnh hh f _ h1
        refine PE.weak (L2H.pe_callH F hr (C.hot hh) (C.sco.gl _ h2) hm kp hb (fun σ => L2N.passAt tk σ) (sA es C W tk _ h3) db (star_each st.1) (star_any st.2)) fun σ H Q q => ?_
        obtain ⟨s, G, Q0, hs, hg, q, k⟩ := q
        refine ⟨s, G, _, hs, hg, q, fun us G1 vs H1 q1 r1 g1 e1 => ?_⟩
        have z := call_xr (mg := X.mg) (tb := tb) (hs.ext e1) g1 r1 e1 q1 k
        rwa [List.append_nil] at z
      | false =>
        obtain ⟨ex, db⟩ := C.fns hh f _ h1
        rcases ex with ⟨_, k0, fa, fd, ps, hm, kp, hr, hb, F⟩ | ⟨_, k0, fI, fd, ps, spI, hm, M, hr, hb, F, hsp⟩ | ⟨c, m, e, _⟩
        · refine PE.weak (pe_callSD F hr (C.sco.gl _ h2) hm kp hb .nil (fun σ => L2N.passAt tk σ) (sA es C W tk _ h3) db (star_each st.1) (star_any st.2)) fun σ H Q q => ?_
          obtain ⟨s, G, Q0, hs, hg, q, k⟩ := q
          exact ⟨s, G, _, hs, hg, q, fun us G1 vs H1 q1 r1 g1 e1 => call_xr (hs.ext e1) g1 r1 e1 q1 k⟩
        · refine PE.weak (pe_makeSD M F hr (C.sco.gl _ h2) hm hb (fun σ => L2N.passAt tk σ) (sA es C W tk _ h3) db (star_each st.1) (star_any st.2)) fun σ H Q q => ?_
          obtain ⟨s, G, Q0, hs, hg, q, k⟩ := q
          refine ⟨s, G, _, hs, hg, q, fun us G1 vs H1 q1 r1 g1 e1 => hsp vs H1 Q _ ?_⟩
          have z := call_xr (mg := X.mg) (tb := tb) (hs.ext e1) g1 r1 e1 q1 k
          rwa [List.append_nil] at z
        · rw [e] at h1'
          cases h1'
    · simp only [Bool.and_eq_true, decide_eq_true_eq, Bool.not_eq_true'] at h
      obtain ⟨⟨⟨⟨hh, h1⟩, h1'⟩, h2⟩, h3⟩ := h
      obtain ⟨ex, db⟩ := C.fns hh f _ h1
      cases es with
      | nil =>
        rcases ex with ⟨_, k0, fa, fd, ps, hm, kp, hr, hb, F⟩ | ⟨_, k0, fI, fd, ps, spI, hm, M, hr, hb, F, hsp⟩ | ⟨c, m, e, _⟩
        · refine PE.weak (pe_callSD0 F hr (C.sco.gl _ h2) hm kp hb (fun σ => L2N.passAt tk σ) db) fun σ H Q q => ?_
          obtain ⟨s, G, Q0, hs, hg, q, k⟩ := q
          exact call_xr hs hg .nil .refl q k
        · refine PE.weak (pe_makeSD0 M F hr (C.sco.gl _ h2) hm hb (fun σ => L2N.passAt tk σ) db) fun σ H Q q => ?_
          obtain ⟨s, G, Q0, hs, hg, q, k⟩ := q
          refine hsp [] H Q _ ?_
          exact call_xr (mg := X.mg) (tb := tb) hs hg .nil .refl q k
        · rw [e] at h1'
          cases h1'
      | cons _ _ => cases h3
    · cases h
  | .blt b es, X, sc, C, W, tk, ex, h => by
    unfold chkE at h
    split at h
    · simp only [Bool.and_eq_true, decide_eq_true_eq] at h
      obtain ⟨⟨⟨h0, h1⟩, h2⟩, h3⟩ := h
      subst h1
      have st := chkA_star h3
      simp only [List.all_cons, Bool.and_eq_true] at st
      have hc : b.cool = true → X.calm = true := fun z => C.calm (by rw [z] at h0; simpa using h0)
      refine PE.weak (Blt.pe hc (C.sco.gl _ h2) (C.blt _ b.nm_mem) (sA es C W tk _ h3) (star_each st.1) (star_any st.2)) fun σ H Q q => ?_
      obtain ⟨s, G, Q0, hs, hg, q, k⟩ := q
      exact ⟨s, G, _, hs, hg, q, fun us G1 vs H1 q1 r1 g1 e1 => ⟨us, G1, Q0, r1, g1, q1, fun u G' v H' q' r' g' e' => k u G' v H' q' r' g' (e1.trans e')⟩⟩
    · cases h
  | .mth m o es, X, sc, C, W, tk, ex, h => by
    unfold chkE at h
    split at h
    · rename_i r nm ap y ys cp
      simp only [Bool.and_eq_true, decide_eq_true_eq] at h
      obtain ⟨⟨⟨⟨⟨h1, h2⟩, h3⟩, h4⟩, h5⟩, h6⟩ := h
      subst h1
      have st := chkA_star h6
      have st' := st
      simp only [List.all_cons, Bool.and_eq_true] at st
      refine PE.weak (pe_bm m.pa m.slot m.hty m.ok (sE o C W tk _ h5) (sA es C W tk _ h6) (plain_o h2) ?_ h3 (star_each st.1) (star_any st.2)) fun σ H Q q => ?_
      · rw [star_all st']
        show (true && true && decide (_ + 0 + 0 < 30)) = true
        simp only [Bool.and_self, Bool.true_and, decide_eq_true_eq]
        simp only [List.length_cons] at h4 ⊢
        omega
      · obtain ⟨s, G, Q0, hs, hg, q, k⟩ := q
        refine ⟨s, G, _, hs, hg, q, fun x G1 v H1 q1 r1 g1 e1 => ⟨mTy_of g1 r1 q1.1, s, G1, _, hs.ext e1, g1, q1.2, fun us G2 vs H2 q2 r2 g2 e2 => ?_⟩⟩
        exact ⟨x, us, G2, Q0, RU.ext e2 r1, r2, g2, q2, fun u G' v H' q' r' g' e' => k u G' v H' q' r' g' ((e1.trans e2).trans e')⟩
    · simp only [Bool.and_eq_true, decide_eq_true_eq] at h
      obtain ⟨⟨⟨⟨h1, h2⟩, h3⟩, h5⟩, h6⟩ := h
      subst h1
      cases es with
      | nil =>
        refine PE.weak (pe_bm0 m.pa m.slot m.hty m.ok (sE o C W tk _ h5) (plain_o h2) h3) fun σ H Q q => ?_
        obtain ⟨s, G, Q0, hs, hg, q, k⟩ := q
        refine ⟨s, G, _, hs, hg, q, fun x G1 v H1 q1 r1 g1 e1 => ⟨mTy_of g1 r1 q1.1, ?_⟩⟩
        exact ⟨x, [], G1, Q0, r1, .nil, g1, q1.2, fun u G' v H' q' r' g' e' => k u G' v H' q' r' g' (e1.trans e')⟩
      | cons _ _ => cases h6
    · cases h
  | .ix o i, X, sc, C, W, tk, ex, h => by
    unfold chkE at h
    split at h
    · simp only [Bool.and_eq_true] at h
      obtain ⟨⟨h1, h2⟩, h3⟩ := h
      exact PE.weak (pe_ix (ix_u (by have := C.hu; omega)) (sE o C W tk _ h2) (sE i C W tk _ h3) (plain_ix h1)) fun σ H Q => cOp
    · cases h
  | .sl o lo hi, X, sc, C, W, tk, ex, h => by
    unfold chkE at h
    split at h
    · simp only [Bool.and_eq_true] at h
      obtain ⟨⟨h1, h2⟩, h3⟩ := h
      refine PE.weak (pe_slice sl_u (sE o C W tk _ h1) (sO lo C W tk _ h2) (sO hi C W tk _ h3)) fun σ H Q q => ?_
      obtain ⟨s, G, Q0, hs, hg, q, k⟩ := q
      refine ⟨s, G, _, hs, hg, q, fun x G1 v H1 q1 r1 g1 e1 => ⟨s, G1, _, hs.ext e1, g1, q1, fun l G2 H2 q2 g2 e2 => ⟨s, G2, _, hs.ext (e1.trans e2), g2, q2, fun l2 G3 H3 q3 g3 e3 => ?_⟩⟩⟩
      exact ⟨x, G3, Q0, RU.ext (e2.trans e3) r1, g3, q3, fun u G' v H' q' r' g' e' => k u G' v H' q' r' g' (((e1.trans e2).trans e3).trans e')⟩
    · cases h
  | .lc elt tg it c, X, sc, C, W, tk, ex, h => by
    unfold chkE at h
    split at h
    · rename_i el t i ifs scope pos
      simp only [Bool.and_eq_true, Bool.not_eq_true'] at h
      obtain ⟨⟨⟨⟨⟨⟨hh, h1⟩, h2⟩, h3⟩, h4⟩, h5⟩, h6⟩ := h
      have P := pe_lc (pos := pos) (g := cG X.K (slotsG tg) (trG tg)) (te := cE X.K (trE Γ (fun _ _ _ => False) elt)) (tt := cT X.K (trC Γ (fun _ _ _ => False) c)) (C.calm hh) C.nd (sI it C W tk t i h3) (blk_ok C h2) (fun s H Cc cl fp => sG (C.blk hh s H scope Cc cl fp) tg t (.inl hh) h4)
        (fun s H Cc cl fp => sC c (C.blk hh s H scope Cc cl fp) (fun _ _ _ => False) (takes_false fun _ _ _ _ z => by obtain ⟨_, _, _, _, _, _, z⟩ := z; exact z) ifs h5)
        (fun s H Cc cl fp => sE elt (C.blk hh s H scope Cc cl fp) (fun _ _ _ => False) (takes_false fun _ _ _ _ z => by obtain ⟨_, _, _, _, _, _, z⟩ := z; exact z) el h6) (not_set h1)
      rw [own_snd] at P
      exact PE.weak P fun σ H Q => lc_conv
    · cases h
  | .fmt e, X, sc, C, W, tk, ex, h => by
    unfold chkE at h
    split at h
    · exact PE.weak (pe_fmt (sE e C W tk _ h)) fun σ H Q q => cFmt q
    · cases h
  | .jn es, X, sc, C, W, tk, ex, h => by
    unfold chkE at h
    split at h
    · obtain ⟨ts, P, k⟩ := sJ es C W tk _ h
      refine PE.weak (pe_joined P) fun σ H Q q => ?_
      obtain ⟨s, G, Q0, hs, hg, q, kq⟩ := q
      exact k _ σ H _ ⟨s, G, _, hs, hg, q, fun x G1 H1 q1 g1 e1 => kq _ G1 _ H1 q1 (.str _) g1 e1⟩
    · cases h
  | .xf o f, X, sc, C, W, tk, ex, h => by
    unfold chkE at h
    split at h
    · simp only [Bool.and_eq_true, decide_eq_true_eq] at h
      obtain ⟨⟨h1, h2⟩, h3⟩ := h
      subst h1
      cases hc : Γ.xc with
      | none =>
        refine ⟨fun pins s σ H Q I q => ?_⟩
        obtain ⟨_, _, _, _, _, ⟨z, _⟩, _⟩ := q
        rw [hc] at z
        cases z
      | some c =>
        rename_i r g pos
        have P := pe_xf (f := f) (pos := pos) (C.xc c hc).2 (sE o C W tk _ h3) h2
        refine PE.weak P fun σ H Q q => ?_
        obtain ⟨s, G, Q0, hs, hg, q, k⟩ := q
        exact ⟨s, G, Q0, hs, hg, by rw [← hc]; exact q.2, k⟩
    · cases h
  | .xi o y, X, sc, C, W, tk, ex, h => by
    unfold chkE at h
    split at h
    · simp only [Bool.and_eq_true, decide_eq_true_eq] at h
      obtain ⟨⟨⟨⟨⟨h1, h2⟩, h3⟩, h4⟩, h5⟩, h6⟩ := h
      subst h1
      subst h2
      cases hc : Γ.xc with
      | none =>
        refine ⟨fun pins s σ H Q I q => ?_⟩
        obtain ⟨_, _, _, _, _, ⟨z, _⟩, _⟩ := q
        rw [hc] at z
        cases z
      | some c =>
        cases hk : c.kin y with
        | none =>
          refine ⟨fun pins s σ H Q I q => ?_⟩
          obtain ⟨_, _, _, _, _, ⟨z, _⟩, _⟩ := q
          rw [hc, Option.bind_some, hk] at z
          cases z
        | some b =>
          refine PE.weak (pe_xi hk (C.xc c hc).2 (sE o C W tk _ h6) (C.sco.gl _ h3) (C.blt _ (by decide)) (C.sco.gl _ h4) h5) fun σ H Q q => ?_
          obtain ⟨s, G, Q0, hs, hg, q, k⟩ := q
          exact ⟨s, G, Q0, hs, hg, by rw [← hc]; exact q.2, k⟩
    · cases h
  | .fld o f, X, sc, C, W, tk, ex, h => by
    unfold chkE at h
    split at h
    · simp only [Bool.and_eq_true, decide_eq_true_eq] at h
      obtain ⟨⟨h1, h2⟩, h3⟩ := h
      subst h1
      refine PE.weak (pe_fld (sE o C W tk _ h3) (plain_o h2)) fun σ H Q q => ?_
      obtain ⟨s, G, Q0, hs, hg, q, k⟩ := q
      refine ⟨s, G, _, hs, hg, q, fun x G1 v H1 q1 r1 g1 e1 => ?_⟩
      obtain ⟨a, y, ns, fs, dx, xs, rfl, rfl, hG, hH, rk, c, n, hn, q1⟩ := uObj_of g1 r1 q1
      rcases rk.look (f := f) with ⟨l1, _⟩ | ⟨u, v, l1, l2, r⟩
      · rw [l1] at q1
        exact q1.elim
      · rw [l1] at q1
        exact ⟨a, _, dx, xs, v, rfl, hH, c, n f (by simpa using hn), l2, k _ G1 _ H1 q1 r g1 e1⟩
    · cases h
  | .om cn m j o es, X, sc, C, W, tk, ex, h => by
    unfold chkE at h
    split at h
    · rename_i r nm ap y ys cp
      simp only [Bool.and_eq_true, decide_eq_true_eq, Bool.not_eq_true'] at h
      obtain ⟨⟨⟨⟨⟨⟨⟨hh, h1⟩, h2⟩, h3⟩, h4⟩, h5⟩, h6⟩, h7⟩ := h
      subst h1
      have st := chkA_star h7
      have st' := st
      simp only [List.all_cons, Bool.and_eq_true] at st
      cases ex : tb.fns[j]? with
      | none => rw [ex] at h2; cases h2
      | some x =>
        rw [ex] at h2
        have h2 : spl x = some (cn, m) := h2
        obtain ⟨av, db⟩ := C.fns hh j x ex
        rcases av with ⟨z, _⟩ | ⟨z, _⟩ | ⟨c', m', z, k0, f, fd, ps, cl, me, hr, hb, F⟩
        · rw [z] at h2; cases h2
        · rw [z] at h2; cases h2
        · rw [z] at h2
          cases h2
          refine PE.weak (pe_methSD (sE o C W tk _ h6) cl me F hr hb (fun σ => L2N.passAt tk σ) (sA es C W tk _ h7) (star_each st.1) (star_any st.2) (meth_tree (plain_o h3) ?_ h4)) fun σ H Q q => ?_
          · unfold methodCallForm
            rw [star_all st']
            show (true && true && decide (_ + 0 + 0 < 30)) = true
            simp only [Bool.and_self, Bool.true_and, decide_eq_true_eq]
            have h8 : (y :: ys).length < 30 := by omega
            exact decide_eq_true h8
          · obtain ⟨s, G, Q0, hs, hg, q, k⟩ := q
            refine ⟨s, G, _, hs, hg, q, fun x G1 v H1 q1 r1 g1 e1 => ?_⟩
            obtain ⟨a, y, ns, fs, dx, xs, rfl, rfl, hG, hH, rk, c, n, hn, hl, q5⟩ := uObj_of g1 r1 q1
            subst hn
            refine ⟨a, dx, xs, rfl, hH, ?_, s, G1, _, hs.ext e1, g1, q5, fun us G2 vs H2 q2 r2 g2 e2 => ?_⟩
            · rcases rk.look (f := m) with ⟨_, l2⟩ | ⟨u, v, l1, _⟩
              · exact l2
              · rw [hl] at l1; cases l1
            · have zz := call_xr (mg := X.mg) (tb := tb) (us := .ref a :: us) (vs := .ref a :: vs) (hs.ext (e1.trans e2)) g2 (.cons (.ref a) r2) (e1.trans e2) q2 k
              rwa [List.append_nil] at zz
    · simp only [Bool.and_eq_true, decide_eq_true_eq, Bool.not_eq_true'] at h
      obtain ⟨⟨⟨⟨⟨⟨hh, h1⟩, h2⟩, h3⟩, h4⟩, h6⟩, h7⟩ := h
      subst h1
      cases es with
      | cons _ _ => cases h7
      | nil =>
        cases ex : tb.fns[j]? with
        | none => rw [ex] at h2; cases h2
        | some x =>
          rw [ex] at h2
          have h2 : spl x = some (cn, m) := h2
          obtain ⟨av, db⟩ := C.fns hh j x ex
          rcases av with ⟨z, _⟩ | ⟨z, _⟩ | ⟨c', m', z, k0, f, fd, ps, cl, me, hr, hb, F⟩
          · rw [z] at h2; cases h2
          · rw [z] at h2; cases h2
          · rw [z] at h2
            cases h2
            refine PE.weak (pe_methSD0 (sE o C W tk _ h6) cl me F hr hb (fun σ => L2N.passAt tk σ) (meth_tree (plain_o h3) rfl h4)) fun σ H Q q => ?_
            obtain ⟨s, G, Q0, hs, hg, q, k⟩ := q
            refine ⟨s, G, _, hs, hg, q, fun x G1 v H1 q1 r1 g1 e1 => ?_⟩
            obtain ⟨a, y, ns, fs, dx, xs, rfl, rfl, hG, hH, rk, c, n, hn, hl, q5⟩ := uObj_of g1 r1 q1
            subst hn
            refine ⟨a, dx, xs, rfl, hH, ?_, ?_⟩
            · rcases rk.look (f := m) with ⟨_, l2⟩ | ⟨u, v, l1, _⟩
              · exact l2
              · rw [hl] at l1; cases l1
            · exact call_xr (mg := X.mg) (tb := tb) (us := [.ref a]) (vs := [.ref a]) (hs.ext e1) g1 (.cons (.ref a) .nil) e1 q5 k
    · cases h
  | .dnew, X, sc, C, W, tk, ex, h => by
    unfold chkE at h
    split at h
    · refine PE.weak pe_dnewK fun σ H Q q => ?_
      obtain ⟨s, G, Q0, hs, hg, q, k⟩ := q
      intro p hp
      obtain ⟨e, g⟩ := hg.newDk hp
      exact k _ _ _ _ (q p (hg.fresh hp)) (.ref p) g e
    · cases h
  | .dsp kx vx, X, sc, C, W, tk, ex, h => by
    unfold chkE at h
    split at h
    · simp only [Bool.and_eq_true] at h
      refine PE.weak (pe_disp (pps_cons (sE kx C W tk _ h.1) (sE vx C W tk _ h.2) pps_nil) rfl rfl (fun z => by cases z) (show 1 ≤ 15 by decide)) fun σ H Q q => ?_
      obtain ⟨s, G, Q0, hs, hg, q, k⟩ := q
      intro p hp
      obtain ⟨e, g⟩ := hg.newDk hp
      refine ⟨s, _, _, hs.ext e, g, q p (hg.fresh hp), fun x G1 v H1 q1 r1 g1 e1 => ⟨s, G1, _, hs.ext (e.trans e1), g1, q1, fun y G2 v2 H2 q2 r2 g2 e2 => ?_⟩⟩
      obtain ⟨hp2, q2⟩ := q2
      split at q2
      · rename_i kk ek
        obtain ⟨xs, h3, r3⟩ := g2.dK hp2
        cases r3
        obtain ⟨e4, g4⟩ := g2.setDk (ws := [(kk, y)]) (ys := [(kk, v2)]) hp2 (.cons ⟨rfl, r2⟩ .nil)
        exact ⟨h3, [(kk, v2)], by rw [key_rel r1 ek]; rfl, (show 1 ≤ 15 by decide), k _ _ _ _ q2 (.ref p) g4 (((e.trans e1).trans e2).trans e4)⟩
      · exact q2.elim
    · cases h
  | .dget o kx dx, X, sc, C, W, tk, ex, h => by
    unfold chkE at h
    split at h
    · rename_i r nm ap x y cp
      simp only [Bool.and_eq_true, decide_eq_true_eq] at h
      obtain ⟨⟨⟨⟨⟨⟨⟨h1, h2⟩, h3⟩, h4⟩, h5⟩, h6⟩, h7⟩, h8⟩ := h
      subst h1
      have st : ([x, y] : List Expr).all notStar = true := by simp [h4, h5]
      refine PE.weak (pe_dget2 (by have := C.hu; omega) (sE o C W tk _ h6) (sE kx C W tk _ h7) (sE dx C W tk _ h8) ⟨plain_o h2, ?_, h3, ?_⟩) fun σ H Q q => ?_
      · rw [star_all st]
        rfl
      · rw [star_each h4, star_each h5]
        rfl
      · obtain ⟨s, G, Q0, hs, hg, q, k⟩ := q
        refine ⟨s, G, _, hs, hg, q, fun x G1 v H1 q1 r1 g1 e1 => ?_⟩
        obtain ⟨q0, q1⟩ := q1
        unfold isDk at q0
        split at q0
        · rename_i a
          cases r1
          split at q0
          · rename_i kvs hG
            obtain ⟨xs, h9, r9⟩ := g1.dK hG
            refine ⟨a, rfl, .inl ⟨xs, .inl h9⟩, s, G1, _, hs.ext e1, g1, q1, fun y G2 v2 H2 q2 r2 g2 e2 => ⟨s, G2, _, hs.ext (e1.trans e2), g2, q2, fun z G3 v3 H3 q3 r3 g3 e3 => ?_⟩⟩
            unfold uDGet at q3
            dsimp only at q3
            split at q3
            · rename_i kvs3 hG3
              obtain ⟨xs3, h10, r10⟩ := g3.dK hG3
              split at q3
              · rename_i kk ek
                have := key_rel r2 ek
                subst this
                refine ⟨_, DGet.k h10, ?_⟩
                rcases lookK_rel r10 kk with ⟨c1, c2⟩ | ⟨u, w, c1, c2, c3⟩
                · rw [c2]
                  rw [c1] at q3
                  exact k _ G3 _ H3 q3 r3 g3 ((e1.trans e2).trans e3)
                · rw [c2]
                  rw [c1] at q3
                  exact k _ G3 _ H3 q3 c3 g3 ((e1.trans e2).trans e3)
              · exact q3.elim
            · exact q3.elim
          · exact q0.elim
        · exact q0.elim
    · cases h
  | .dc kx vx tg it c, X, sc, C, W, tk, ex, h => by
    unfold chkE at h
    split at h
    · rename_i kx' vx' t i ifs scope pos
      simp only [Bool.and_eq_true, Bool.not_eq_true'] at h
      obtain ⟨⟨⟨⟨⟨⟨⟨hh, h1⟩, h2⟩, h3⟩, h4⟩, h5⟩, h6⟩, h7⟩ := h
      have P := pe_dc (pos := pos) (g := cG X.K (slotsG tg) (trG tg)) (tk := cE X.K (trE Γ (fun _ _ _ => False) kx)) (tv := cE X.K (trE Γ (fun _ _ _ => False) vx)) (tt := cT X.K (trC Γ (fun _ _ _ => False) c)) (C.calm hh) C.nd (sI it C W tk t i h3) (blk_ok C h2) (fun s H Cc cl fp => sG (C.blk hh s H scope Cc cl fp) tg t (.inl hh) h4)
        (fun s H Cc cl fp => sC c (C.blk hh s H scope Cc cl fp) (fun _ _ _ => False) (takes_false fun _ _ _ _ z => by obtain ⟨_, _, _, _, _, _, z⟩ := z; exact z) ifs h5)
        (fun s H Cc cl fp => sE kx (C.blk hh s H scope Cc cl fp) (fun _ _ _ => False) (takes_false fun _ _ _ _ z => by obtain ⟨_, _, _, _, _, _, z⟩ := z; exact z) kx' h6)
        (fun s H Cc cl fp => sE vx (C.blk hh s H scope Cc cl fp) (fun _ _ _ => False) (takes_false fun _ _ _ _ z => by obtain ⟨_, _, _, _, _, _, z⟩ := z; exact z) vx' h7) (not_set h1)
      rw [own_snd] at P
      exact PE.weak P fun σ H Q => dc_conv
    · cases h
  | .maxd e c, X, sc, C, W, tk, ex, h => by
    unfold chkE at h
    split at h
    · simp only [Bool.and_eq_true, decide_eq_true_eq, Bool.not_eq_true'] at h
      obtain ⟨⟨⟨⟨⟨⟨hh, h1⟩, h2⟩, h3⟩, h4⟩, h5⟩, h6⟩ := h
      subst h2
      refine PE.weak (pe_maxD (C.calm hh) C.hu (C.sco.gl _ h3) (C.blt _ (by rw [h1]; decide)) h1 (sE e C W tk _ h5) (sE c C W tk _ h6) (star_each h4)) fun σ H Q q => ?_
      obtain ⟨s, G, Q0, hs, hg, q, k⟩ := q
      refine ⟨s, G, _, hs, hg, q, fun x G1 v H1 q1 r1 g1 e1 => ⟨s, G1, _, hs.ext e1, g1, q1, fun d G2 u H2 q2 r2 g2 e2 => ?_⟩⟩
      unfold uMaxD at q2
      split at q2
      · cases RU.ext e2 r1
        cases r2
        split at q2
        · rename_i us hG
          obtain ⟨xs, h8, r8⟩ := g2.lst hG
          split at q2
          · rename_i ns hns
            exact ⟨_, ns, _, rfl, rfl, maxD_sq h8 r8 hns, k _ G2 _ H2 q2 (.int _) g2 (e1.trans e2)⟩
          · exact q2.elim
        · exact q2.elim
      · exact q2.elim
    · cases h
  | .stp o c, X, sc, C, W, tk, ex, h => by
    unfold chkE at h
    split at h
    · simp only [Bool.and_eq_true] at h
      exact PE.weak (pe_step (sE o C W tk _ h.1) (sE c C W tk _ h.2)) fun σ H Q q => cStp (ta := trE Γ W o) (tb := trE Γ W c) q
    · cases h
  | .lc2 elt tg it c tg1 it1 c1, X, sc, C, W, tk, ex, h => by
    unfold chkE at h
    split at h
    · rename_i el t i ifs t1 i1 ifs1 scope pos
      simp only [Bool.and_eq_true, Bool.not_eq_true'] at h
      obtain ⟨⟨⟨⟨⟨⟨⟨⟨⟨⟨hh, h1⟩, h1'⟩, h2⟩, h3⟩, h4⟩, h5⟩, h6⟩, h7⟩, h8⟩, h9⟩ := h
      have tf : ∀ s H Cc cl fp, L2N.Takes (X.blk s H scope (compEnvC scope cl Cc X.env) fp) (cW X.K X.mg tb (fun _ _ _ => False)) := fun s H Cc cl fp => takes_false fun _ _ _ _ z => by obtain ⟨_, _, _, _, _, _, z⟩ := z; exact z
      have P := pe_lc2 (pos := pos) (vs1 := slotsG tg1) (g := cG X.K (slotsG tg) (trG tg)) (g1 := cG X.K (slotsG tg1) (trG tg1)) (te := cE X.K (trE Γ (fun _ _ _ => False) elt)) (tt := cT X.K (trC Γ (fun _ _ _ => False) c)) (tt1 := cT X.K (trC Γ (fun _ _ _ => False) c1)) (wi1 := cI X.K (trI Γ (fun _ _ _ => False) it1)) (C.calm hh) C.nd (sI it C W tk t i h3) (blk_ok C h2)
        (by rw [own_snd]; exact fun i hi => List.mem_append_right _ hi)
        (fun s H Cc cl fp => sG (C.blk hh s H scope Cc cl fp) tg t (.inl hh) h4) (fun s H Cc cl fp => sC c (C.blk hh s H scope Cc cl fp) (fun _ _ _ => False) (tf s H Cc cl fp) ifs h5)
        (fun s H Cc cl fp => sI it1 (C.blk hh s H scope Cc cl fp) (fun _ _ _ => False) (tf s H Cc cl fp) t1 i1 h6)
        (fun s H Cc cl fp => sG (C.blk hh s H scope Cc cl fp) tg1 t1 (.inl hh) h7) (fun s H Cc cl fp => sC c1 (C.blk hh s H scope Cc cl fp) (fun _ _ _ => False) (tf s H Cc cl fp) ifs1 h8)
        (fun s H Cc cl fp => sE elt (C.blk hh s H scope Cc cl fp) (fun _ _ _ => False) (tf s H Cc cl fp) el h9) (not_set h1) (fun env x => not_set (env := env) h1' x)
      rw [own_snd] at P
      exact PE.weak P fun σ H Q => lc2_conv
    · cases h
theorem sA : ∀ (es : Exs) {X : Cx} {sc : Scope}, CtxOk X sc tb Γ → ∀ (W : UW), L2N.Takes X (cW X.K X.mg tb W) → ∀ xs : List Expr, chkA X.N sc tb es xs = true → PA X xs (cA X.K (trA Γ W es))
  | .nil, X, sc, C, W, tk, [], h => by
    refine PA.weak pa_nil fun σ H Q q => ?_
    obtain ⟨s, G, Q0, hs, hg, q, k⟩ := q
    exact k _ G _ H q .nil hg .refl
  | .nil, X, sc, C, W, tk, _ :: _, h => by cases h
  | .cons _ _, X, sc, C, W, tk, [], h => by cases h
  | .cons e es, X, sc, C, W, tk, x :: xs, h => by
    simp only [chkA, Bool.and_eq_true] at h
    refine PA.weak (pa_cons (sE e C W tk _ h.1.2) (sA es C W tk _ h.2) (star_each h.1.1)) fun σ H Q q => ?_
    obtain ⟨s, G, Q0, hs, hg, q, k⟩ := q
    refine ⟨s, G, _, hs, hg, q, fun u G1 v H1 q1 r1 g1 e1 => ⟨s, G1, _, hs.ext e1, g1, q1, fun us G2 vs H2 q2 r2 g2 e2 => ?_⟩⟩
    exact k _ G2 _ H2 q2 (.cons (RU.ext e2 r1) r2) g2 (e1.trans e2)
theorem sJ : ∀ (es : Exs) {X : Cx} {sc : Scope}, CtxOk X sc tb Γ → ∀ (W : UW), L2N.Takes X (cW X.K X.mg tb W) → ∀ xs : List Expr, chkA X.N sc tb es xs = true → ∃ ts, PJ X xs ts ∧ ∀ acc σ H Q, cJ X.K (trJ Γ W es acc) σ H Q → tJs ts acc σ H Q
  | .nil, X, sc, C, W, tk, [], h => ⟨[], .nil, fun acc σ H Q q => by
    obtain ⟨s, G, Q0, hs, hg, q, k⟩ := q
    exact k _ G H q hg .refl⟩
  | .nil, X, sc, C, W, tk, _ :: _, h => by cases h
  | .cons _ _, X, sc, C, W, tk, [], h => by cases h
  | .cons e es, X, sc, C, W, tk, x :: xs, h => by
    simp only [chkA, Bool.and_eq_true] at h
    obtain ⟨ts, P, k⟩ := sJ es C W tk _ h.2
    refine ⟨_ :: ts, .cons (sE e C W tk _ h.1.2) P, fun acc σ H Q q => ?_⟩
    obtain ⟨s, G, Q0, hs, hg, q, kq⟩ := q
    refine ⟨s, G, _, hs, hg, q, fun u G1 v H1 q1 r1 g1 e1 => ?_⟩
    split at q1
    · cases r1
      exact ⟨_, rfl, q1.1, k _ σ H1 Q ⟨s, G1, Q0, hs.ext e1, g1, q1.2, fun x G2 H2 q2 g2 e2 => kq x G2 H2 q2 g2 (e1.trans e2)⟩⟩
    · exact q1.elim
theorem sO : ∀ (o : Exo) {X : Cx} {sc : Scope}, CtxOk X sc tb Γ → ∀ (W : UW), L2N.Takes X (cW X.K X.mg tb W) → ∀ x : Option Expr, chkO X.N sc tb o x = true → PO X x (cO X.K (trO Γ W o))
  | .no, X, sc, C, W, tk, none, h => by
    refine PO.weak po_none fun σ H Q q => ?_
    obtain ⟨s, G, Q0, hs, hg, q, k⟩ := q
    exact k _ G H q hg .refl
  | .no, X, sc, C, W, tk, some _, h => by cases h
  | .yes _, X, sc, C, W, tk, none, h => by cases h
  | .yes e, X, sc, C, W, tk, some x, h => by
    refine PO.weak (po_some (sE e C W tk x h)) fun σ H Q q => ?_
    obtain ⟨s, G, Q0, hs, hg, q, k⟩ := q
    refine ⟨s, G, _, hs, hg, q, fun u G1 v H1 q1 r1 g1 e1 => ?_⟩
    split at q1
    · cases r1
      exact ⟨_, rfl, k _ G1 H1 q1 g1 e1⟩
    · exact q1.elim
theorem sC : ∀ (o : Exo) {X : Cx} {sc : Scope}, CtxOk X sc tb Γ → ∀ (W : UW), L2N.Takes X (cW X.K X.mg tb W) → ∀ x : List Expr, chkC X.N sc tb o x = true → PTs X x (cT X.K (trC Γ W o))
  | .no, X, sc, C, W, tk, [], h => by
    refine PTs.weak pts_nil fun σ H Q q => ?_
    obtain ⟨s, G, Q0, hs, hg, q, k⟩ := q
    exact k _ G H q hg .refl
  | .no, X, sc, C, W, tk, _ :: _, h => by cases h
  | .yes _, X, sc, C, W, tk, [], h => by cases h
  | .yes e, X, sc, C, W, tk, [x], h => pts_one (sT e C W tk x h)
  | .yes _, X, sc, C, W, tk, _ :: _ :: _, h => by cases h
theorem sT : ∀ (e : Ex) {X : Cx} {sc : Scope}, CtxOk X sc tb Γ → ∀ (W : UW), L2N.Takes X (cW X.K X.mg tb W) → ∀ ex : Expr, chkE X.N sc tb e ex = true → PT X ex (cT X.K (trT Γ W e))
  | .not a, X, sc, C, W, tk, ex, h => by
    unfold chkE at h
    split at h
    · refine PT.weak (pt_not (sT a C W tk _ h)) fun σ H Q q => ?_
      obtain ⟨s, G, Q0, hs, hg, q, k⟩ := q
      exact ⟨s, G, _, hs, hg, q, fun b G1 H1 q1 g1 e1 => k _ G1 H1 q1 g1 e1⟩
    · cases h
  | .and a b, X, sc, C, W, tk, ex, h => by
    unfold chkE at h
    split at h
    · rename_i x y rest pos
      simp only [Bool.and_eq_true] at h
      obtain ⟨h1, h2⟩ := h
      have hb : PW X (.BoolOp .And (y :: rest) pos) (cT X.K (trT Γ W b)) := by
        split at h2
        · exact pw_and1 (sT b C W tk _ h2)
        · exact pw_of (sT b C W tk _ h2)
      refine PT.weak (pw_and (sT a C W tk _ h1) hb).pt fun σ H Q q => ?_
      obtain ⟨s, G, Q0, hs, hg, q, k⟩ := q
      refine ⟨s, G, _, hs, hg, q, fun kk G1 H1 q1 g1 e1 => ?_⟩
      cases kk with
      | false => simp only [Bool.false_eq_true, if_false] at q1 ⊢; exact k _ G1 H1 q1 g1 e1
      | true =>
        simp only [if_true] at q1 ⊢
        exact ⟨s, G1, Q0, hs.ext e1, g1, q1, fun u G' H' q' g' e' => k u G' H' q' g' (e1.trans e')⟩
    · cases h
  | .or a b, X, sc, C, W, tk, ex, h => by
    unfold chkE at h
    split at h
    · rename_i x y rest pos
      simp only [Bool.and_eq_true] at h
      obtain ⟨h1, h2⟩ := h
      have hb : PW X (.BoolOp .Or (y :: rest) pos) (cT X.K (trT Γ W b)) := by
        split at h2
        · exact pw_or1 (sT b C W tk _ h2)
        · exact pw_of (sT b C W tk _ h2)
      refine PT.weak (pw_or (sT a C W tk _ h1) hb).pt fun σ H Q q => ?_
      obtain ⟨s, G, Q0, hs, hg, q, k⟩ := q
      refine ⟨s, G, _, hs, hg, q, fun kk G1 H1 q1 g1 e1 => ?_⟩
      cases kk with
      | true => simp only [if_true] at q1 ⊢; exact k _ G1 H1 q1 g1 e1
      | false =>
        simp only [Bool.false_eq_true, if_false] at q1 ⊢
        exact ⟨s, G1, Q0, hs.ext e1, g1, q1, fun u G' H' q' g' e' => k u G' H' q' g' (e1.trans e')⟩
    · cases h
  | .cmp op a b, X, sc, C, W, tk, ex, h => by
    unfold chkE at h
    split at h
    · simp only [Bool.and_eq_true, decide_eq_true_eq] at h
      obtain ⟨⟨⟨h1, h2⟩, h3⟩, h4⟩ := h
      subst h1
      refine PT.weak (pt_cmpR (cmp_any C.hu op) (sE a C W tk _ h3) (sE b C W tk _ h4) (nomark' h2)) fun σ H Q q => ?_
      obtain ⟨s, G, Q0, hs, hg, q, k⟩ := q
      refine ⟨s, G, _, hs, hg, q, fun x G1 v H1 q1 r1 g1 e1 => ⟨s, G1, _, hs.ext e1, g1, q1, fun y G2 v2 H2 q2 r2 g2 e2 => ?_⟩⟩
      refine ⟨x, y, G2, _, RU.ext e2 r1, r2, g2, q2, fun z G3 v3 H3 q3 r3 g3 e3 => ?_⟩
      split at q3
      · cases r3
        exact ⟨_, rfl, k _ G3 H3 q3 g3 ((e1.trans e2).trans e3)⟩
      · exact q3.elim
    · cases h
  | .chain o1 o2 a b c, X, sc, C, W, tk, ex, h => by
    unfold chkE at h
    split at h
    · simp only [Bool.and_eq_true, decide_eq_true_eq] at h
      obtain ⟨⟨⟨⟨⟨⟨h1, h2⟩, h3⟩, h4⟩, h5⟩, h6⟩, h7⟩ := h
      subst h1 h2
      exact PT.weak (pt_chain (cmp_any C.hu o1) (cmp_any C.hu o2) (sE a C W tk _ h5) (sE b C W tk _ h6) (sE c C W tk _ h7) (last2 h4)) fun σ H Q => cmp_chainT
    · cases h
  | .ife _ _ _, X, sc, C, W, tk, ex, h => ⟨fun pins s σ H Q I q => by
    obtain ⟨_, _, _, _, _, q, _⟩ := q
    exact q.elim⟩
  | .var i, X, sc, C, W, tk, ex, h => pt_plain (by unfold chkE at h; split at h; rfl; cases h) (sE (.var i) C W tk ex h)
  | .int i, X, sc, C, W, tk, ex, h => pt_plain (by unfold chkE at h; split at h; rfl; cases h) (sE (.int i) C W tk ex h)
  | .bl i, X, sc, C, W, tk, ex, h => pt_plain (by unfold chkE at h; split at h; rfl; cases h) (sE (.bl i) C W tk ex h)
  | .non, X, sc, C, W, tk, ex, h => pt_plain (by unfold chkE at h; split at h; rfl; cases h) (sE .non C W tk ex h)
  | .str i, X, sc, C, W, tk, ex, h => pt_plain (by unfold chkE at h; split at h; rfl; cases h) (sE (.str i) C W tk ex h)
  | .gl i, X, sc, C, W, tk, ex, h => pt_plain (by unfold chkE at h; split at h; rfl; cases h) (sE (.gl i) C W tk ex h)
  | .ty i, X, sc, C, W, tk, ex, h => pt_plain (by unfold chkE at h; split at h; rfl; cases h) (sE (.ty i) C W tk ex h)
  | .bin op a b, X, sc, C, W, tk, ex, h => pt_plain (by unfold chkE at h; split at h; rfl; cases h) (sE (.bin op a b) C W tk ex h)
  | .neg a, X, sc, C, W, tk, ex, h => pt_plain (by unfold chkE at h; split at h; rfl; cases h) (sE (.neg a) C W tk ex h)
  | .tup es, X, sc, C, W, tk, ex, h => pt_plain (by unfold chkE at h; split at h; rfl; cases h) (sE (.tup es) C W tk ex h)
  | .lst es, X, sc, C, W, tk, ex, h => pt_plain (by unfold chkE at h; split at h; rfl; cases h) (sE (.lst es) C W tk ex h)
  | .call f es, X, sc, C, W, tk, ex, h => pt_plain (by unfold chkE at h; split at h; rfl; rfl; cases h) (sE (.call f es) C W tk ex h)
  | .blt f es, X, sc, C, W, tk, ex, h => pt_plain (by unfold chkE at h; split at h; rfl; cases h) (sE (.blt f es) C W tk ex h)
  | .mth m o es, X, sc, C, W, tk, ex, h => pt_plain (by unfold chkE at h; split at h; rfl; rfl; cases h) (sE (.mth m o es) C W tk ex h)
  | .ix o i, X, sc, C, W, tk, ex, h => pt_plain (by unfold chkE at h; split at h; rfl; cases h) (sE (.ix o i) C W tk ex h)
  | .sl o lo hi, X, sc, C, W, tk, ex, h => pt_plain (by unfold chkE at h; split at h; rfl; cases h) (sE (.sl o lo hi) C W tk ex h)
  | .fmt e, X, sc, C, W, tk, ex, h => pt_plain (by unfold chkE at h; split at h; rfl; cases h) (sE (.fmt e) C W tk ex h)
  | .jn es, X, sc, C, W, tk, ex, h => pt_plain (by unfold chkE at h; split at h; rfl; cases h) (sE (.jn es) C W tk ex h)
  | .xf o f, X, sc, C, W, tk, ex, h => pt_plain (by unfold chkE at h; split at h; rfl; cases h) (sE (.xf o f) C W tk ex h)
  | .xi o y, X, sc, C, W, tk, ex, h => pt_plain (by unfold chkE at h; split at h; rfl; cases h) (sE (.xi o y) C W tk ex h)
  | .fld o f, X, sc, C, W, tk, ex, h => pt_plain (by unfold chkE at h; split at h; rfl; cases h) (sE (.fld o f) C W tk ex h)
  | .om cn m j o es, X, sc, C, W, tk, ex, h => pt_plain (by unfold chkE at h; split at h; rfl; rfl; cases h) (sE (.om cn m j o es) C W tk ex h)
  | .dnew, X, sc, C, W, tk, ex, h => pt_plain (by unfold chkE at h; split at h; rfl; cases h) (sE .dnew C W tk ex h)
  | .dsp kx vx, X, sc, C, W, tk, ex, h => pt_plain (by unfold chkE at h; split at h; rfl; cases h) (sE (.dsp kx vx) C W tk ex h)
  | .dget o kx dx, X, sc, C, W, tk, ex, h => pt_plain (by unfold chkE at h; split at h; rfl; cases h) (sE (.dget o kx dx) C W tk ex h)
  | .dc kx vx tg it c, X, sc, C, W, tk, ex, h => pt_plain (by unfold chkE at h; split at h; rfl; cases h) (sE (.dc kx vx tg it c) C W tk ex h)
  | .maxd e c, X, sc, C, W, tk, ex, h => pt_plain (by unfold chkE at h; split at h; rfl; cases h) (sE (.maxd e c) C W tk ex h)
  | .stp o c, X, sc, C, W, tk, ex, h => pt_plain (by unfold chkE at h; split at h; rfl; cases h) (sE (.stp o c) C W tk ex h)
  | .lc2 elt tg it c tg1 it1 c1, X, sc, C, W, tk, ex, h => pt_plain (by unfold chkE at h; split at h; rfl; cases h) (sE (.lc2 elt tg it c tg1 it1 c1) C W tk ex h)
  | .lc elt tg it c, X, sc, C, W, tk, ex, h => pt_plain (by unfold chkE at h; split at h; rfl; cases h) (sE (.lc elt tg it c) C W tk ex h)
theorem sI : ∀ (it : Ito) {X : Cx} {sc : Scope}, CtxOk X sc tb Γ → ∀ (W : UW), L2N.Takes X (cW X.K X.mg tb W) → ∀ t ex : Expr, chkI X.N sc tb it t ex = true → PI X t ex (cI X.K (trI Γ W it))
  | .rng1 a, X, sc, C, W, tk, t, ex, h => by
    unfold chkI at h
    split at h
    · simp only [Bool.and_eq_true, decide_eq_true_eq] at h
      obtain ⟨⟨⟨h1, h2⟩, h3⟩, h4⟩ := h
      subst h1
      refine PI.weak (pi_range1 (C.sco.gl _ h2) (C.blt _ (by decide)) (one_a (sE a C W tk _ h4) h3) (star_each h3)) fun σ H R q => ?_
      obtain ⟨s, G, R0, hs, hg, q, k⟩ := q
      refine ⟨s, G, fun us G1 => match us with
        | [x] => (match x with
          | .int j => small62 j ∧ R0 [] (rangeU 0 1 j.toNat) G1
          | _ => False)
        | _ => False, hs, hg, q, fun us G1 vs H1 q1 r1 g1 e1 => ?_⟩
      dsimp only at q1
      split at q1
      · split at q1
        · obtain ⟨b, q1⟩ := q1
          cases r1 with
          | cons r rr =>
            cases r; cases rr
            unfold small62 at b
            exact ⟨_, rfl, by omega, by omega, k _ _ G1 H1 _ q1 g1 e1 (it_range1 _ _)⟩
        · exact q1.elim
      · exact q1.elim
    · cases h
  | .rng2 a b, X, sc, C, W, tk, t, ex, h => by
    unfold chkI at h
    split at h
    · simp only [Bool.and_eq_true, decide_eq_true_eq] at h
      obtain ⟨⟨⟨⟨⟨h1, h2⟩, h3⟩, h4⟩, h5⟩, h6⟩ := h
      subst h1
      refine PI.weak (pi_range2 (C.sco.gl _ h2) (C.blt _ (by decide)) (two_a (sE a C W tk _ h5) (sE b C W tk _ h6) h3 h4) (by rw [star_each h3, star_each h4]; rfl) (by rw [star_each h4]; rfl)) fun σ H R q => ?_
      obtain ⟨s, G, R0, hs, hg, q, k⟩ := q
      refine ⟨s, G, fun us G2 => match us with
        | [x, y] => (match x, y with
          | .int i, .int j => small62 i ∧ small62 j ∧ R0 [] (rangeU i 1 (j - i).toNat) G2
          | _, _ => False)
        | _ => False, hs, hg, q, fun us G1 vs H1 q1 r1 g1 e1 => ?_⟩
      dsimp only at q1
      split at q1
      · split at q1
        · obtain ⟨b, b2, q1⟩ := q1
          cases r1 with
          | cons r rr =>
            cases rr with
            | cons r2 rr =>
              cases r; cases r2; cases rr
              unfold small62 at b b2
              exact ⟨_, _, rfl, by omega, k _ _ G1 H1 _ q1 g1 e1 (it_range1 _ _)⟩
        · exact q1.elim
      · exact q1.elim
    · cases h
  | .rng3 a b c, X, sc, C, W, tk, t, ex, h => by
    unfold chkI at h
    split at h
    · simp only [Bool.and_eq_true, decide_eq_true_eq] at h
      obtain ⟨⟨⟨⟨⟨⟨⟨h1, h2⟩, h3⟩, h4⟩, h4'⟩, h5⟩, h6⟩, h7⟩ := h
      subst h1
      refine PI.weak (pi_range3 (C.sco.gl _ h2) (C.blt _ (by decide)) (three_a (sE a C W tk _ h5) (sE b C W tk _ h6) (sE c C W tk _ h7) h3 h4 h4') (star_each h3) (star_any (by simp [h4, h4']))) fun σ H R q => ?_
      obtain ⟨s, G, R0, hs, hg, q, k⟩ := q
      refine ⟨s, G, fun us G2 => match us with
        | [x, y, z] => (match x, y, z with
          | .int i, .int j, .int c => small62 i ∧ small62 j ∧ 0 < c ∧ c < 1073741824 ∧ R0 [] (rangeU i c (rlen i j c)) G2
          | _, _, _ => False)
        | _ => False, hs, hg, q, fun us G1 vs H1 q1 r1 g1 e1 => ?_⟩
      dsimp only at q1
      split at q1
      · split at q1
        · obtain ⟨b, b2, b3, b4, q1⟩ := q1
          cases r1 with
          | cons r rr =>
            cases rr with
            | cons r2 rr =>
              cases rr with
              | cons r3 rr =>
                cases r; cases r2; cases r3; cases rr
                exact ⟨_, _, _, _, rfl, rg_ok b b2 b3 b4, k _ _ G1 H1 _ q1 g1 e1 (it_range _ _ _)⟩
        · exact q1.elim
      · exact q1.elim
    · cases h
  | .val e, X, sc, C, W, tk, t, ex, h => val_ok (sE e C W tk ex h)
  | .enum e, X, sc, C, W, tk, t, ex, h => by
    unfold chkI at h
    split at h
    · simp only [Bool.and_eq_true, decide_eq_true_eq] at h
      obtain ⟨⟨⟨h1, h2⟩, h3⟩, h4⟩ := h
      subst h1
      refine PI.weak (pi_enumK (C.sco.gl _ h2) (C.blt _ (by decide)) (one_a (sE e C W tk _ h4) h3) (star_each h3)) fun σ H R q => ?_
      obtain ⟨s, G, R0, hs, hg, q, k⟩ := q
      refine ⟨s, G, fun us G1 => match us with
        | [x] => seqOf x G1 fun ds us => R0 ds (enumU 0 us) G1
        | _ => False, hs, hg, q, fun us G1 vs H1 q1 r1 g1 e1 => ?_⟩
      dsimp only at q1
      split at q1
      · cases r1 with
        | cons r rr =>
          cases rr
          obtain ⟨kk, a, xs, ds, us, rfl, hq, q2, dk, st⟩ := seq_of g1 r q1
          exact ⟨kk, a, xs, rfl, hq, k _ _ _ _ _ q2 g1 e1 (it_enum st)⟩
      · exact q1.elim
    · cases h
  | .zip a b, X, sc, C, W, tk, t, ex, h => by
    unfold chkI at h
    split at h
    · simp only [Bool.and_eq_true, decide_eq_true_eq] at h
      obtain ⟨⟨⟨⟨⟨h1, h2⟩, h3⟩, h4⟩, h5⟩, h6⟩ := h
      subst h1
      refine PI.weak (pi_zipK (C.sco.gl _ h2) (C.blt _ (by decide)) (two_a (sE a C W tk _ h5) (sE b C W tk _ h6) h3 h4) (star_each h3) (star_any (by simp [h4]))) fun σ H R q => ?_
      obtain ⟨s, G, R0, hs, hg, q, k⟩ := q
      refine ⟨s, G, fun us G2 => match us with
        | [x, y] => seqOf x G2 fun ds us => seqOf y G2 fun es ws => R0 (ds ++ es) (zipU us ws) G2
        | _ => False, hs, hg, q, fun us G1 vs H1 q1 r1 g1 e1 => ?_⟩
      dsimp only at q1
      split at q1
      · cases r1 with
        | cons r rr =>
          cases rr with
          | cons r2 rr =>
            cases rr
            obtain ⟨k1, a, xs, ds, us, rfl, hq, q2, dk, st⟩ := seq_of g1 r q1
            obtain ⟨k2, b, ys, es, ws, rfl, hq2, q3, dk2, st2⟩ := seq_of g1 r2 q2
            exact ⟨k1, k2, a, b, xs, ys, rfl, hq, hq2, k _ _ _ _ _ q3 g1 e1 (it_zip st st2)⟩
      · exact q1.elim
    · cases h
end
end
end UL
set_option Elab.async false
set_option linter.all false
set_option autoImplicit false
set_option maxRecDepth 100000
set_option maxHeartbeats 4000000
/-! UL12: trees of one's own for statements; what they ask; how they fit the text. -/
namespace UL
open PySem PySem.Spec L2
mutual
inductive Sm
  | asg (t : Tg) (e : Ex) | par2 (i j : Nat) (es : Exs) | par3 (i j l : Nat) (es : Exs) | setLc (i : Nat) (elt : Ex) (tg : Tg) (it : Ito) (c : Exo)
  | sub (o i e : Ex) | aug (i : Nat) (op : Operator) (e : Ex) | augS (o i : Ex) (op : Operator) (e : Ex)
  | expr (e : Ex) | doc | ret (e : Ex) | retN | ife (c : Ex) (a b : Sms) | whl (c : Ex) (b : Sms) | for_ (t : Tg) (it : Ito) (b : Sms)
  | setF (o : Ex) (f : Str) (e : Ex) | augF (o : Ex) (f : Str) (op : Operator) (e : Ex) | delTo (o c : Ex) | brk | cont | pass | raise (k : Nat) (es : Exs) | tryAs (b : Sms) (k i : Nat) (h : Ex)
inductive Sms
  | nil
  | cons (s : Sm) (ss : Sms)
end
structure UE where
  nx : USt → UH → Prop
  rt : UK
  bk : USt → UH → Prop
  ct : USt → UH → Prop
  ex : UW
abbrev UTS := UE → USt → UH → Prop
/-- the names of a class's fields, its kin -/
structure Tab2 extends Tab where
  sub : Nat → Nat → Bool
  hfns : List Str := []
  kin : Nat → Str → Option Bool := fun _ _ => none
/-- within an except suite -/
def Tab2.ht (tb : Tab2) : Tab := ⟨tb.hfns, tb.gls, tb.xcs, true⟩
def Gam.inH (Γ : Gam) (c : XcI) : Gam := ⟨Γ.hf, Γ.gl, Γ.hf, some c⟩

/-- o[i] = v -/
def uSet (o i v : U) (G : UH) (Q : UH → Prop) : Prop := match o with
  | .ref a => (match G a with
    | some (.lst us) => (match i with
      | .int k => (match ixN us.length k with
        | some j => Q (up G a (.lst (us.set j v)))
        | none => False)
      | _ => False)
    | some (.dK kvs) => (match keyOf i with
      | some k => kvs.length < sizeLine ∧ Q (up G a (.dK (putU kvs k v)))
      | none => False)
    | _ => False)
  | _ => False
def uGet : UOp := fun x y G Q => match x with
  | .ref a => uIx (.ref a) y G Q
  | _ => False
/-- op= by values -/
def uIp : Operator → UOp
  | .Add => fun x y G Q => match x, y with
    | .int i, .int j => Q (.int (i + j)) G
    | _, _ => False
  | .Sub => fun x y G Q => match x, y with
    | .int i, .int j => Q (.int (i - j)) G
    | _, _ => False
  | _ => fun _ _ _ _ => False
/-- a loop over what is told -/
def forU (ds : Deps) (g : U → USt → UH → (USt → UH → Prop) → Prop) (tb : UTS) (D : UE) : List U → USt → UH → Prop
  | [], s, G => depsOk G ds ∧ D.nx s G
  | y :: ys, s, G => depsOk G ds ∧ g y s G fun s1 G1 => tb ⟨fun s2 G2 => ∃ G3, Le G3 G2 ∧ forU ds g tb D ys s2 G3, D.rt, D.nx, fun s2 G2 => ∃ G3, Le G3 G2 ∧ forU ds g tb D ys s2 G3, D.ex⟩ s1 G1
def whlU (c : UTT) (tb : UTS) (D : UE) (s : USt) (G : UH) : Prop := ∃ Iv : Nat → USt → UH → Prop, (∃ m, Iv m s G) ∧ ∀ m s1 G1, Iv m s1 G1 → c s1 G1 fun b G2 => if b = true then
  tb ⟨fun s2 G3 => ∃ m' G4, m' < m ∧ Le G4 G3 ∧ Iv m' s2 G4, D.rt, D.nx, fun s2 G3 => ∃ m' G4, m' < m ∧ Le G4 G3 ∧ Iv m' s2 G4, D.ex⟩ s1 G2 else D.nx s1 G2
mutual
def trS (tb : Tab2) (Γ : Gam) : Sm → UTS
  | .asg t e => fun D s G => trE Γ D.ex e s G fun u G1 => trG t u s G1 D.nx
  | .par2 i j es => fun D s G => trA Γ D.ex es s G fun us G1 => match us with
    | [u, v] => D.nx (setS (setS s i (some u)) j (some v)) G1
    | _ => False
  | .par3 i j l es => fun D s G => trA Γ D.ex es s G fun us G1 => match us with
    | [u, v, w] => D.nx (setS (setS (setS s i (some u)) j (some v)) l (some w)) G1
    | _ => False
  | .setLc i elt tg it c => fun D s G => trE Γ D.ex (.lc elt tg it c) s G fun u G1 => D.nx (setS s i (some u)) G1
  | .sub o i e => fun D s G => trE Γ D.ex e s G fun v G1 => trE Γ D.ex o s G1 fun x G2 => trE Γ D.ex i s G2 fun y G3 => uSet x y v G3 fun G4 => D.nx s G4
  | .aug i op e => fun D s G => match getS s i with
    | some x => trE Γ D.ex e s G fun y G1 => uIp op x y G1 fun z G2 => D.nx (setS s i (some z)) G2
    | none => False
  | .augS o i op e => fun D s G => trE Γ D.ex o s G fun x G1 => trE Γ D.ex i s G1 fun y G2 => uGet x y G2 fun z G3 => trE Γ D.ex e s G3 fun v G4 => uIp op z v G4 fun w G5 => uSet x y w G5 fun G6 => D.nx s G6
  | .setF o f e => fun D s G => trE Γ D.ex e s G fun v G1 => trE Γ D.ex o s G1 fun x G2 => uSetF f x v G2 fun G3 => D.nx s G3
  | .augF o f op e => fun D s G => trE Γ D.ex o s G fun x G1 => uObj x G1 fun _ y ns fs => ns.contains f = true ∧ match fs.lookup f with
    | some z => trE Γ D.ex e s G1 fun v G3 => uIp op z v G3 fun w G4 => uObj x G4 fun a y' ns' fs' => y' = y ∧ ns'.contains f = true ∧ fs'.length < 1000 ∧ D.nx s (up G4 a (.ins y' ns' (putFU f w fs')))
    | none => False
  | .delTo o c => fun D s G => trE Γ D.ex o s G fun x G1 => trE Γ D.ex c s G1 fun k G2 => uDelTo x k G2 fun G3 => D.nx s G3
  | .expr e => fun D s G => trE Γ D.ex e s G fun _ G1 => D.nx s G1
  | .doc => fun D s G => D.nx s G
  | .ret e => fun D s G => trE Γ D.ex e s G D.rt
  | .retN => fun D _ G => D.rt .non G
  | .ife c a b => fun D s G => trT Γ D.ex c s G fun k G1 => if k = true then trSs tb Γ a D s G1 else trSs tb Γ b D s G1
  | .whl c b => fun D s G => whlU (trT Γ D.ex c) (trSs tb Γ b) D s G
  | .for_ t it b => fun D s G => trI Γ D.ex it s G fun ds ys G1 => forU ds (trG t) (trSs tb Γ b) D ys s G1
  | .brk => fun D s G => D.bk s G
  | .cont => fun D s G => D.ct s G
  | .pass => fun D s G => D.nx s G
  | .raise k es => fun D s G => trA Γ D.ex es s G fun us G1 => ((tb.xcs[k]?).map fun p => p.2.length) = some us.length ∧ D.ex (k, us.reverse) s G1
  | .tryAs b k i h => fun D s G => trSs tb Γ b { D with ex := fun xn s1 G1 => if tb.sub xn.1 k = true then ∃ x fs, tb.xcs[xn.1]? = some (x, fs) ∧ ∀ a dx, G1 a = none → G1 dx = none → a ≠ dx → trE (Γ.inH ⟨a, dx, fs, tb.kin xn.1⟩) (fun _ _ _ => False) h (setS s1 i (some (.ref a))) (up G1 dx (.xd (fs.zip xn.2))) D.rt else D.ex xn s1 G1 } s G
def trSs (tb : Tab2) (Γ : Gam) : Sms → UTS
  | .nil => fun D s G => D.nx s G
  | .cons st ss => fun D s G => trS tb Γ st { D with nx := fun s1 G1 => trSs tb Γ ss D s1 G1 } s G
end

/-! ### fits the text -/
def starLess : Expr → Bool
  | .Starred _ _ => false
  | _ => true
def swpF (sc : Scope) (tg e : Expr) : Bool := match e with
  | .ListComp _ _ s p => (match tg with
    | .Name t tp => decide (sc.names.lookup t = some .local) && (tp.line == p.line) && !(s.names.any fun (n, k) => n == t && (k == .local || k == .cell))
    | _ => false)
  | .SetComp _ _ _ _ => true
  | .DictComp _ _ _ _ _ => true
  | _ => false
def exprLc : Expr → Bool
  | .ListComp _ _ _ _ => true
  | .SetComp _ _ _ _ => true
  | .DictComp _ _ _ _ _ => true
  | _ => false
/-- the names that are stored the other way round -/
def swNames (sc : Scope) (ts : List Expr) : List Str :=
  let line := (ts.head?.map (·.pos.line)).getD 0
  ts.filterMap fun
    | .Name id pos => if sc.names.lookup id == some .local && pos.line == line then some id else none
    | _ => none
def swNo (sc : Scope) (tg e : Expr) : Bool := match tg, e with
  | .Tuple ts _ _, .Tuple vs _ _ => !(ts.length == 2 || ts.length == 3) || vs.length != ts.length || (swNames sc ts).length != ts.length || (swNames sc ts).eraseDups.length != (swNames sc ts).length || vs.all (foldedForSure 8)
  | .List _ _, .Tuple _ _ _ => false
  | _, _ => true
def isNm : Tg → Bool
  | .nm _ => true
  | _ => false
def isR1 : Ito → Bool
  | .rng1 _ => true
  | _ => false
theorem isNm_ex {t : Tg} (h : isNm t = true) : ∃ i, t = .nm i := by cases t <;> first | exact ⟨_, rfl⟩ | cases h
def locOnly (N : List Str) (sc : Scope) (i : Nat) (x : Str) : Bool := decide (N[i]? = some x) && decide (sc.names.lookup x = some .local)
mutual
def chkS (N : List Str) (sc : Scope) (tb : Tab2) (nt : Bool) : Sm → Stmt → Bool
  | .asg t e => fun st => match st with
    | .Assign [tg] v _ => (!tb.hot || isNm t) && notStar tg && !(swpF sc tg v) && swNo sc tg v && chkG N sc t tg && chkE N sc tb.toTab e v
    | _ => false
  | .par2 i j es => fun st => match st with
    | .Assign [.Tuple [.Name x px, .Name y py] _ _] (.Tuple [a, b] _ _) _ => !tb.hot && locOnly N sc i x && locOnly N sc j y && decide (i ≠ j) && decide (x ≠ y) && (py.line == px.line) && notStar a && notStar b && !([a, b].all (foldedForSure 8)) && !([a, b].all (constantsAlone 8)) && chkA N sc tb.toTab es [a, b]
    | _ => false
  | .par3 i j l es => fun st => match st with
    | .Assign [.Tuple [.Name x px, .Name y py, .Name z pz] _ _] (.Tuple [a, b, c] _ _) _ => !tb.hot && locOnly N sc i x && locOnly N sc j y && locOnly N sc l z && decide (i ≠ j) && decide (i ≠ l) && decide (j ≠ l) && decide (x ≠ y) && decide (x ≠ z) && decide (y ≠ z) &&
       (py.line == px.line) && (pz.line == px.line) && notStar a && notStar b && notStar c && !([a, b, c].all (foldedForSure 8)) && !([a, b, c].all (constantsAlone 8)) && chkA N sc tb.toTab es [a, b, c]
    | _ => false
  | .setLc i elt tg it c => fun st => match st with
    | .Assign [.Name y py] (.ListComp el [⟨t, ii, ifs, 0⟩] scope pos) _ => !tb.hot && locOnly N sc i y && (py.line == pos.line) && !(scope.names.any fun (n, k) => n == y && (k == .local || k == .cell)) && chkE N sc tb.toTab (.lc elt tg it c) (.ListComp el [⟨t, ii, ifs, 0⟩] scope pos)
    | _ => false
  | .sub o i e => fun st => match st with
    | .Assign [.Subscript x y p] v _ => notSl y && chkE N sc tb.toTab o x && chkE N sc tb.toTab i y && chkE N sc tb.toTab e v && !(swpF sc (.Subscript x y p) v)
    | _ => false
  | .aug i op e => fun st => match st with
    | .AugAssign (.Name x _) op' v _ => decide (op = op') && decide (N[i]? = some x) && locB sc x && chkE N sc tb.toTab e v
    | _ => false
  | .augS o i op e => fun st => match st with
    | .AugAssign (.Subscript x y _) op' v _ => decide (op = op') && notSl y && chkE N sc tb.toTab o x && chkE N sc tb.toTab i y && chkE N sc tb.toTab e v
    | _ => false
  | .setF o f e => fun st => match st with
    | .Assign [.Attribute x g p] v _ => decide (f = g) && plainO x && chkE N sc tb.toTab o x && chkE N sc tb.toTab e v && !(swpF sc (.Attribute x g p) v)
    | _ => false
  | .augF o f op e => fun st => match st with
    | .AugAssign (.Attribute x g _) op' v _ => decide (f = g) && decide (op = op') && chkE N sc tb.toTab o x && chkE N sc tb.toTab e v
    | _ => false
  | .delTo o c => fun st => match st with
    | .Delete [.Subscript x (.Slice none (some k) none _) _] _ => chkE N sc tb.toTab o x && chkE N sc tb.toTab c k
    | _ => false
  | .expr e => fun st => match st with
    | .Expr v _ => !(exprLc v) && chkE N sc tb.toTab e v
    | _ => false
  | .doc => fun st => match st with
    | .Expr (.Constant (.str _) _ _) _ => true
    | _ => false
  | .ret e => fun st => match st with
    | .Return (some v) _ => chkE N sc tb.toTab e v
    | _ => false
  | .retN => fun st => match st with
    | .Return none _ => true
    | _ => false
  | .ife c a b => fun st => match st with
    | .If t x y _ => chkE N sc tb.toTab c t && chkSs N sc tb nt a x && chkSs N sc tb nt b y
    | _ => false
  | .whl c b => fun st => match st with
    | .While t x [] _ => chkE N sc tb.toTab c t && chkSs N sc tb nt b x
    | _ => false
  | .for_ t it b => fun st => match st with
    | .For tg i x [] _ => (!tb.hot || (isNm t && isR1 it)) && notSet i && chkG N sc t tg && chkI N sc tb.toTab it tg i && chkSs N sc tb true b x
    | _ => false
  | .brk => fun st => match st with
    | .Break _ => true
    | _ => false
  | .cont => fun st => match st with
    | .Continue _ => true
    | _ => false
  | .pass => fun st => match st with
    | .Pass _ => true
    | _ => false
  | .raise k es => fun st => match st with
    | .Raise (some (.Call (.Name x _) (y :: ys) [] _)) none _ => !tb.hot && decide ((tb.xcs[k]?).map (·.1) = some x) && glB sc x && chkA N sc tb.toTab es (y :: ys)
    | _ => false
  | .tryAs b k i h => fun st => match st with
    | .Try body [.ExceptHandler (some (.Name x _)) (some n) [.Return (some v) _] _] [] [] _ => !tb.hot && !nt && decide ((tb.xcs[k]?).map (·.1) = some x) && glB sc x && !(x == ("__debug__" : Str)) && locOnly N sc i n && !(n == ("__debug__" : Str)) && !(n == ("__classdict__" : Str)) && chkSs N sc tb nt b body && chkE N sc tb.ht h v
    | _ => false
def chkSs (N : List Str) (sc : Scope) (tb : Tab2) (nt : Bool) : Sms → List Stmt → Bool
  | .nil => fun xs => match xs with
    | [] => true
    | _ => false
  | .cons s ss => fun xs => match xs with
    | x :: xs => chkS N sc tb nt s x && chkSs N sc tb nt ss xs
    | _ => false
end
/-! ### stores the other way round -/
section
variable {env : Env} {sc : Scope}
theorem sw_not {tg e : Expr} {l : Nat} (hs : env.scope = sc) (hk : sc.kind = .function) (h : swpF sc tg e = false) : swapsWithSole [tg] e l env = pure false := by
  show swapsWith e (some tg) l env = pure false
  cases e with
  | ListComp elt gs s p =>
    unfold swpF at h
    cases tg with
    | Name t tp =>
      have hb : env.blockKind = .function := by unfold Env.blockKind; rw [hs, hk]; rfl
      simp only [Bool.and_eq_false_iff, decide_eq_false_iff_not] at h
      unfold swapsWith
      show (pure (env.blockKind == .function && env.kindOf t == some .local && tp.line == p.line && !(s.names.any fun (n, k) => n == t && (k == .local || k == .cell))) : Sem Bool) = pure false
      congr 1
      have kd : env.kindOf t = sc.names.lookup t := by unfold Env.kindOf; rw [hs]
      rcases h with (h | h) | h
      · have : (env.kindOf t == some .local) = false := by rw [kd]; simpa using h
        rw [this]; simp
      · rw [h]; simp
      · rw [h]; simp
    | _ => rfl
  | SetComp => cases h
  | DictComp => cases h
  | _ => rfl
theorem sw_none {e : Expr} {l : Nat} (h : exprLc e = false) : swapsWith e none l env = pure false := by
  cases e <;> first | rfl | cases h
theorem swT_none {ts vs : List Expr} {k k2 : Nat} {p p2 : Pos} (hb : env.blockKind = .function) (h : swNo env.scope (.Tuple ts k p) (.Tuple vs k2 p2) = true) : swappedStores [.Tuple ts k p] (.Tuple vs k2 p2) env = pure none := by
  unfold swNo at h
  simp only [Bool.or_eq_true, Bool.not_eq_true'] at h
  unfold swappedStores
  dsimp only
  split
  · rfl
  · rename_i c1
    split
    · rfl
    · split
      · rfl
      · rename_i c3
        have c3' : ¬ (((swNames env.scope ts).length != ts.length || (swNames env.scope ts).eraseDups.length != (swNames env.scope ts).length) = true) := c3
        have c4 : vs.all (foldedForSure 8) = true := by
          simp only [Bool.or_eq_true, Bool.not_eq_true', not_or] at c1 c3'
          rcases h with (((h | h) | h) | h) | h
          · exact absurd h c1.1.1
          · exact absurd h c1.1.2
          · exact absurd h c3'.1
          · exact absurd h c3'.2
          · exact h
        rw [if_pos c4]
theorem sw_stores_none {tg e : Expr} (hs : env.scope = sc) (hk : sc.kind = .function) (h : swNo sc tg e = true) : swappedStores [tg] e env = pure none := by
  have hb : env.blockKind = .function := by unfold Env.blockKind; rw [hs, hk]; rfl
  subst hs
  cases tg with
  | Tuple ts k p =>
    cases e with
    | Tuple vs k2 p2 => exact swT_none hb h
    | _ => rfl
  | List ts p =>
    cases e with
    | Tuple vs k2 p2 => cases h
    | _ => rfl
  | _ => cases e <;> rfl
end
end UL
set_option Elab.async false
set_option linter.all false
set_option autoImplicit false
set_option maxRecDepth 100000
set_option maxHeartbeats 4000000
/-! UL13: soundness of statements. -/
namespace UL
open PySem PySem.Spec L2
theorem Inv.ext0 {X : Cx} {pins : List (Addr × Obj)} {σ : L2.St} {H : Hp} {s : Shared} (I : Inv X pins σ H s) : Ext X.H_0 H := ⟨fun a xs h => I.base.tups a xs h, fun a o u h => I.base.frzs a o u h⟩
theorem takes_ext {X : Cx} {W W' : WX} (t : L2N.Takes X W) (h : ∀ c d σ H, Ext X.H_0 H → σ.length = X.N.length → W' c d σ H → W c d σ H) : L2N.Takes X W' := fun u s' ⟨a, B, sI, pins, σ, H, cls, d, e, I, nb, up, sky, na, os, ag, w⟩ =>
  t u s' ⟨a, B, sI, pins, σ, H, cls, d, e, I, nb, up, sky, na, os, ag, h _ _ _ _ (Inv.ext0 I) I.len w⟩
/-- it can be made: its own __init__ lays its fields, the first one last -/
structure XcAvail (X : Cx) (x : Str) (fs : List Str) : Prop where
  ex : ∃ (C fI : Addr) (fd : FuncData) (k : Nat) (ps : List Str) (sp : Sp), X.mg x = some (.ref C) ∧ XcCls X.K C fs ∧ OexC X.K C ∧ PySem.W.findIn X.K (.ref C) "__init__" = some (some (.ref fI)) ∧ PySem.W.typeIn X.K (.ref fI) = some (.type "function") ∧
    FnOk X.prog X.w X.K X.mg X.base (L2N.CX X.prog X.w) k fI fd ps sp ∧ Room (k + 1) X.A ∧ Binds X.K fd ps [] ∧ fs.length ≤ 900 ∧
    ∀ (a : Addr) (ws : List V) (H : Hp) (Q : VK), ws.length = fs.length → H a = some (exo a C none) → (∀ d, H d = none → d ≠ a → Q .non (upd (upd H d (exd d (fs.zip ws.reverse))) a (exo a C (some d)))) → sp (.ref a :: ws) H Q (fun _ _ _ => False)
  db : (x == ("__debug__" : Str)) = false
structure CtxS (X : Cx) (sc : Scope) (tb : Tab2) (Γ : Gam) : Prop extends CtxOk X sc tb.toTab Γ where
  scE : X.env.scope = sc
  knd : sc.kind = .function
  own : PassesOwn (model X.prog X.w) X.A X.env X.xe
  stk : X.stack = X.env :: X.outer
  frm : X.env.frame = some X.env.locals
  xcs : tb.hot = false → ∀ (i : Nat) (x : Str) (fs : List Str), tb.xcs[i]? = some (x, fs) → XcAvail X x fs
  hfns : tb.hot = false → ∀ i x, tb.hfns[i]? = some x → FnAvailH X x (cSp X.K X.mg tb.toTab (Γ.hf i))
  kin : ∀ (i : Nat) (x : Str) (fs : List Str) (C : Addr) (y : Str) (b : Bool), tb.xcs[i]? = some (x, fs) → X.mg x = some (.ref C) → tb.kin i y = some b → XcIs X.K C ∧ ∃ cv, XcVal X y cv ∧ PySem.W.kitOne X.K (.ref C) cv = some b
  sub : ∀ (i k : Nat) (x y : Str) (fs gs : List Str) (C D : Addr), tb.xcs[i]? = some (x, fs) → tb.xcs[k]? = some (y, gs) → X.mg x = some (.ref C) → X.mg y = some (.ref D) → PySem.W.exmOne X.K (.ref C) (.ref D) = some (tb.sub i k)
structure Post (K : PySem.W.Frag) (B : Hp) (D0 : UE) (D : Ends) : Prop where
  nx : ∀ s G σ H, D0.nx s G → SR K H s σ → HR K G H → Ext B H → D.nx σ H
  rt : ∀ u G v H, D0.rt u G → RU K H u v → HR K G H → Ext B H → D.rt v H
  bk : ∀ s G σ H, D0.bk s G → SR K H s σ → HR K G H → Ext B H → D.bk σ H
  ct : ∀ s G σ H, D0.ct s G → SR K H s σ → HR K G H → Ext B H → D.ct σ H
def cS (X : Cx) (tb : Tab2) (nt : Bool) (t : UTS) : TS := fun D σ H => ∃ B D0 s G, (nt = true ∨ B = X.H_0) ∧ L2N.Takes X (cW X.K X.mg tb.toTab D0.ex) ∧ SR X.K H s σ ∧ HR X.K G H ∧ Ext B H ∧ t D0 s G ∧ Post X.K B D0 D

theorem XnR.le {K : PySem.W.Frag} {mg : Str → Option Value} {tb : Tab} {xn : UXn} {cls : Value} {d : Option Addr} {G0 G : UH} {H : Hp} (h : XnR K mg tb xn cls d G H) (l : Le G0 G) : XnR K mg tb xn cls d G0 H := by
  obtain ⟨x, fs, C, dx, vs, h1, h2, h3, h4, h5, h6, h7, h8⟩ := h
  refine ⟨x, fs, C, dx, vs, h1, h2, h3, h4, h5, h6, h7, ?_⟩
  cases e : G0 dx with
  | none => rfl
  | some o => rw [l _ _ e] at h8; cases h8
theorem zip_rkv {K : PySem.W.Frag} {H : Hp} : ∀ {fs : List Str} {us : List U} {vs : List V}, RUs K H us vs → RKV K H (fs.zip us) (fs.zip vs)
  | [], _, _, _ => by unfold RKV; exact .nil
  | f :: fs, _, _, .nil => by unfold RKV; exact .nil
  | f :: fs, _, _, .cons r t => by unfold RKV; exact .cons ⟨rfl, r⟩ (zip_rkv t)
/-! ### an exception is made whose context is None -/
section
variable {X : Cx} {x : Str} {e : Expr} {es : List Expr} {p pos : Pos} {ta : TA}
theorem endN {pins : List (Addr × Obj)} {σ : L2.St} {Ha Hb : Hp} {Q : XK} {ha hb hc : Heap} {ga gb : Array GenState} {da db : Drawn} {na nb : Nat} {oa ob : OsState} {q C d : Addr} {fs : List (Str × V)} (T : Raises X (.ref C)) (I : Inv X pins σ Ha ⟨ha, ga, da, na, oa⟩) (la : ha.objs.size ≤ q)
    (kk : ∀ b o, ha.get? b = some o → hb.get? b = some o) (un : Un (frs X.stack) [] (upd Ha q (exo q C none)) Hb hb hc) (ok : HOk X.prog X.w Hb hc) (eo : ob = oa) (gg : PyProof.Rows.AllBare gb) (eq : Hb q = some (exo q C (some d))) (ed : Hb d = some (exd d fs)) (nd : Ha d = none) (w : Q (.ref C) (some d) (upd (del Hb q) d (.xd fs))) :
    L2N.MkP X pins σ Q (.ref q) ⟨hc, gb, db, nb, ob⟩ := by
  obtain ⟨t0, G, J, kG, ge, ho, nq⟩ := mk_end0 (d2 := db) (t2 := nb) I la kk un ok eo gg eq ed nd
  exact ⟨q, _, _, ⟨G, gb, db, nb, ob⟩, _, .ref C, some d, rfl, J, kG, ge, ho, ⟨rfl, rfl, fun vs z => by cases z; rfl⟩, rfl, rfl, nq, rfl, gg, T, w⟩
theorem pmkN {CX : CXT} {C fI : Addr} {k : Nat} {fd : FuncData} {ps : List Str} {sp : Sp} (T : OexC X.K C) (iI : PySem.W.findIn X.K (.ref C) "__init__" = some (some (.ref fI))) (tI : PySem.W.typeIn X.K (.ref fI) = some (.type "function")) (F1 : FnOk X.prog X.w X.K X.mg X.base CX k fI fd ps sp)
    (hr : Room (k + 1) X.A) (hb : Binds X.K fd ps []) (hx : Passes CX X (fun _ _ _ => False)) (hg : Gl X x) (hm : X.mg x = some (.ref C)) (hta : PA X (e :: es) ta) (hdb : (x == ("__debug__" : Str)) = false) (hst : starEach (e :: es) X.env = (false, eval e X.env) :: starEach es X.env)
    (hno : (backTo pos (starEach es X.env)).any (·.1) = false) : L2N.PMk X (.Call (.Name x p) (e :: es) [] pos) (tMkO C sp [] ta) := by
  intro pins s σ H Q I h
  obtain ⟨nm, q, N, bs, bm, sn, sub, ab, col, dd, k0, k1, k2, k3, k5, hC, hbm⟩ := T.cls
  refine wpAny_Call_Name_kw (ld_glob I hg hm ?_ hdb)
  refine PySem.W.callWith_K (h₀ := X.base) I.ok.mod.kin T.kC (thn (hta.run pos pins s σ H _ I h) fun us s1 ⟨vs, H1, I1, r1, hz, q1⟩ => ⟨I1.kIn, ?_⟩) hst hno
  show wpAny _ _ (call (.ref C) us) _ _ _
  obtain ⟨ha, g, dr, tk, os⟩ := s1
  have hsz : ha.objs.size ≤ ha.objs.size + 1 := Nat.le_succ _
  have hq := q1 (ha.objs.size + 1) (I1.hok.fresh hsz)
  have ks : ∀ b o, ha.get? b = some o → ((ha.push (PySem.W.kdv_tup us)).push (PySem.HandSPX.excO C ha.objs.size)).get? b = some o := fun b o z => Heap.get?_push_of_some _ (Heap.get?_push_of_some _ z)
  have at1 : ((ha.push (PySem.W.kdv_tup us)).push (PySem.HandSPX.excO C ha.objs.size)).get? (ha.objs.size + 1) = some (PySem.HandSPX.excO C ha.objs.size) := by heap_get
  have I2 : Inv X pins σ (upd H1 (ha.objs.size + 1) (exo (ha.objs.size + 1) C none)) ⟨(ha.push (PySem.W.kdv_tup us)).push (PySem.HandSPX.excO C ha.objs.size), g, dr, tk, os⟩ := I1.laid (t' := tk) (a := ha.objs.size + 1) (o := exo (ha.objs.size + 1) C none) (h' := (ha.push (PySem.W.kdv_tup us)).push (PySem.HandSPX.excO C ha.objs.size)) ks hsz (exo_ok at1)
  have r2 : Vals (V.ref (ha.objs.size + 1) :: (vs ++ [])) (Value.ref (ha.objs.size + 1) :: (us ++ [])) := .cons rfl (r1.append .nil)
  have hl : (Value.ref (ha.objs.size + 1) :: us ++ []).length = ps.length := by rw [← F1.len _ _ _ _ hq]; exact (Paired.length r2).symm
  have hb2 : BindsTo ⟨(ha.push (PySem.W.kdv_tup us)).push (PySem.HandSPX.excO C ha.objs.size), g, dr, tk, os⟩ fd ⟨Value.ref (ha.objs.size + 1) :: us, []⟩ (ps.zip (Value.ref (ha.objs.size + 1) :: (us ++ []))) := hb _ (Value.ref (ha.objs.size + 1) :: us) I2.kIn hl
  have hus : us.length ≤ sizeLine := by rw [← Paired.length r1, sizeLine_eq]; omega
  refine wpAny_call (PySem.HandSPX.call_own F.excBase_ValueError (fun Y => PySem.HandSPX.refsVE_contains Y bm hbm) (I1.kIn _ _ hC) (PySem.W.looks_findIn I1.kIn iI) (fun self => PySem.W.bind_fn I1.kIn self tI) hus (codeAny_mono (F1.run _ X.stack _ _ ⟨Value.ref (ha.objs.size + 1) :: us, []⟩ (Value.ref (ha.objs.size + 1) :: (us ++ [])) _ _ (fun _ _ _ => False)
    (hr.make C us []) (I2.env0.make C us []) hb2 r2 hq) fun r s' z => ?_))
  cases r with
  | error er => exact hx pins σ _ _ er s' I2 z
  | ok fl =>
    cases fl with
    | ret u =>
      obtain ⟨v, H2, os2, bare2, un2, ok2, rv, ev, d, fs, ea, ed, nd, q2⟩ := z
      subst ev
      obtain ⟨hc, g2, d2, t2, os'⟩ := s'
      exact ⟨rv, endN (raises_own T.exC T.tyC) I1 hsz ks un2 ok2 os2 bare2 ea ed nd q2⟩
    | next => exact z.elim
    | brk => exact z.elim
    | cont => exact z.elim
end
end UL
set_option Elab.async false
set_option linter.all false
set_option autoImplicit false
set_option maxRecDepth 100000
set_option maxHeartbeats 4000000
/-! UL14: soundness of statements. -/
namespace UL
open PySem PySem.Spec L2
def cSet (K : PySem.W.Frag) : TSet := fun o i v H Q => ∃ x y z G Q0, RU K H x o ∧ RU K H y i ∧ RU K H z v ∧ HR K G H ∧ uSet x y z G Q0 ∧ ∀ G' H', Q0 G' → HR K G' H' → Ext H H' → Q H'
theorem pset_any {X : Cx} (hu : X.A.units + 1 < cLine) : PSet X (cSet X.K) := by
  intro pins s σ H o i v ov iv u Q I ro ri rv h
  obtain ⟨x, y, z, G, Q0, rx, ry, rz, hg, h, k⟩ := h
  unfold uSet at h
  split at h
  · rename_i a
    cases rx
    split at h
    · rename_i us e1
      obtain ⟨xs, h1, r1⟩ := hg.lst e1
      split at h
      · split at h
        · rename_i j hj
          cases ry
          obtain ⟨e, g⟩ := hg.setLst e1 (r1.set rz j)
          exact set_list pins s σ H _ _ v ov iv u Q I ro ri rv ⟨a, xs, _, j, rfl, rfl, h1, by rw [← r1.length]; exact hj, k _ _ h g e⟩
        · exact h.elim
      · exact h.elim
    · rename_i kvs e1
      obtain ⟨xs, h1, r1⟩ := hg a _ e1
      split at h
      · rename_i kk hk
        have ek := key_rel ry hk
        subst ek
        have e : Ext H (upd H a (.dK (putK xs kk v))) := .wr h1 (fun _ z => by cases z) (fun _ _ z => by cases z)
        refine set_dict hu pins s σ H _ _ v ov iv u Q I ro ri rv ⟨a, _, rfl, DPut.k h1 (by rw [← r1.length]; exact h.1), k _ _ h.2 (hg.put e ⟨_, upd_same, RKV.ext e (RKV.put rz r1)⟩) e⟩
      · exact h.elim
    · exact h.elim
  · exact h.elim
def cIp (K : PySem.W.Frag) (r : UOp) : TIp := fun x y H Q => ∃ a b G Q0, RU K H a x ∧ RU K H b y ∧ HR K G H ∧ r a b G Q0 ∧ ∀ z G' v H', Q0 z G' → RU K H' z v → HR K G' H' → Ext H H' → Q v H'
theorem pip_any {X : Cx} (op : Operator) : PIp X op (cIp X.K (uIp op)) := by
  intro pins s σ H x y v u Q I rx ry h
  obtain ⟨a, b, G, Q0, ra, rb, hg, h, k⟩ := h
  unfold uIp at h
  split at h
  · split at h
    · cases ra; cases rb
      exact ip_add pins s σ H _ _ v u Q I rx ry ⟨_, _, rfl, rfl, k _ G _ H h (.int _) hg .refl⟩
    · exact h.elim
  · split at h
    · cases ra; cases rb
      exact ip_sub pins s σ H _ _ v u Q I rx ry ⟨_, _, rfl, rfl, k _ G _ H h (.int _) hg .refl⟩
    · exact h.elim
  · exact h.elim
theorem get_list {X : Cx} : PGet X (fun x y H Q => ∃ p xs i v, x = .ref p ∧ y = .int i ∧ H p = some (.lst xs) ∧ atI xs i = some v ∧ Q v H) := by
  intro pins s σ H x y v u Q I rx ry h
  obtain ⟨p, xs, i, z, rfl, rfl, hp, he, q⟩ := h
  cases rx
  obtain ⟨t, rfl⟩ := ry
  obtain ⟨its, r, pl, hz⟩ := I.list (SqL.of hp)
  obtain ⟨j, h1, h2, h3, h4, h5⟩ := atI_get he
  obtain ⟨w, ew, rw'⟩ := r.get h2
  have hl := r.length
  have hn := line63
  by_cases h0 : 0 ≤ i
  · have hj : i.toNat = j := Option.some.inj ((seqIndex_of h0 h5).symm.trans h1)
    exact wpAny_getItem_list pl.isList h0 (by omega) (by rw [hj]; simpa using ew) ⟨z, H, I, rw', q⟩
  · have hj : (i + (its.toArray.size : Int)).toNat = j := by
      rw [List.size_toArray, ← hl]
      exact Option.some.inj ((seqIndex_neg (by omega) h4).symm.trans h1)
    exact wpAny_getItem_list_neg pl.isList (by omega) (by rw [List.size_toArray] <;> omega) (by omega) (by rw [hj]; simpa using ew) ⟨z, H, I, rw', q⟩
theorem get_u {X : Cx} (hu : X.A.units + 1 < cLine) : PGet X (c2 X.K uGet) := by
  intro pins s σ H x y v u Q I rx ry h
  obtain ⟨a, b, G, Q0, ra, rb, hg, h, k⟩ := h
  unfold uGet at h
  split at h
  · unfold uIx at h
    simp only at h
    cases ra
    split at h
    · rename_i us e
      obtain ⟨xs, h1, r1⟩ := hg.lst e
      split at h
      · split at h
        · rename_i e2
          cases rb
          obtain ⟨vv, e3, r2⟩ := atI_rel r1 e2
          exact get_list pins s σ H _ _ v u Q I rx ry ⟨_, xs, _, vv, rfl, rfl, h1, e3, k _ G _ H h r2 hg .refl⟩
        · exact h.elim
      · exact h.elim
    · rename_i kvs e
      obtain ⟨xs, h1, r1⟩ := hg _ _ e
      split at h
      · rename_i kk hk
        split at h
        · rename_i u' hu'
          have ek := key_rel rb hk
          subst ek
          rcases lookK_rel r1 kk with ⟨e1, _⟩ | ⟨u2, v2, e1, e2, r2⟩
          · rw [e1] at hu'; cases hu'
          · rw [e1] at hu'
            cases hu'
            cases (show v = Value.ref _ from rx)
            exact d_getItem hu I (by rw [← e2]; exact DGet.k h1) ry fun w' s' I' r' => ⟨v2, H, I', r', k _ G _ H h r2 hg .refl⟩
        · exact h.elim
      · exact h.elim
    · exact h.elim
  · exact h.elim
theorem plain_st {o i : Expr} {pos : Pos} {env : Env} (h : notSl i = true) : ∀ v, assign (.Subscript o i pos) env v = (do
      let ov ← holding [v] (eval o env)
      let iv ← holding [v, ov] (eval i env)
      standAt pos
      holding [v, ov, iv] (setItem ov iv v)
      release [v, ov, iv] []) := by
  intro v
  cases i <;> first | rfl | cases h
theorem plain_aug {i : Expr} (h : notSl i = true) : ∀ ov iv new, augStore i ov iv new = (do holding [new, ov, iv] (setItem ov iv new); release [new, ov, iv] []; pure .next) := by
  intro ov iv new
  cases i <;> first | rfl | cases h
theorem dedup2 {x y : Str} (h : x ≠ y) : [x, y].eraseDups = [x, y] := by
  have h' : (y == x) = false := by simpa using fun z : y = x => h z.symm
  simp [List.eraseDups_cons, List.filter, h']
theorem dedup3 {x y z : Str} (h : x ≠ y) (h2 : x ≠ z) (h3 : y ≠ z) : [x, y, z].eraseDups = [x, y, z] := by
  have h' : (y == x) = false := by simpa using fun w : y = x => h w.symm
  have h2' : (z == x) = false := by simpa using fun w : z = x => h2 w.symm
  have h3' : (z == y) = false := by simpa using fun w : z = y => h3 w.symm
  simp [List.eraseDups_cons, List.filter, h', h2', h3']
theorem no_star {env : Env} : ∀ {es : List Expr}, es.all notStar = true → (es.any fun | .Starred .. => true | _ => false) = false
  | [], _ => rfl
  | e :: es, h => by
    simp only [List.all_cons, Bool.and_eq_true] at h
    rw [List.any_cons, no_star (env := env) h.2, Bool.or_false]
    cases e <;> first | rfl | cases h.1
theorem sw_two {env : Env} {x y : Str} {px py pp p2 : Pos} {kk k2 : Nat} {a b : Expr} (hb : env.blockKind = .function) (hx : env.scope.names.lookup x = some .local) (hy : env.scope.names.lookup y = some .local) (hn : x ≠ y) (hl : (py.line == px.line) = true)
    (hs : [a, b].all notStar = true) (hf : [a, b].all (foldedForSure 8) = false) (hk : [a, b].all (constantsAlone 8) = false) : swappedStores [.Tuple [.Name x px, .Name y py] kk pp] (.Tuple [a, b] k2 p2) env = pure (some [x, y]) := by
  have e1 : (env.kindOf x == some .local) = true := by unfold Env.kindOf; rw [hx]; rfl
  have e2 : (env.kindOf y == some .local) = true := by unfold Env.kindOf; rw [hy]; rfl
  unfold swappedStores
  dsimp only
  split
  · rename_i c
    rw [hb] at c
    exact Bool.noConfusion (show false = true from c)
  · split
    · rename_i c
      exact absurd ((no_star (env := env) hs).symm.trans c) (by decide)
    · have en : (List.filterMap (fun | Expr.Name id pos => if (env.kindOf id == some NameKind.local && pos.line == (([Expr.Name x px, Expr.Name y py].head?.map (·.pos.line)).getD 0)) = true then some id else none | _ => none) [Expr.Name x px, Expr.Name y py]) = [x, y] := by
        simp only [List.filterMap_cons, List.filterMap_nil, e1, e2, List.head?_cons, Option.map_some, Option.getD_some, Expr.pos, beq_self_eq_true, Bool.and_self, if_true, hl]
      split
      · rename_i c
        exact absurd c (by
          show ¬ (((List.filterMap _ [Expr.Name x px, Expr.Name y py]).length != 2 || (List.filterMap _ [Expr.Name x px, Expr.Name y py]).eraseDups.length != (List.filterMap _ [Expr.Name x px, Expr.Name y py]).length) = true)
          erw [en, dedup2 hn]
          exact fun z => Bool.noConfusion (show false = true from z))
      · rw [if_neg (by rw [hf]; decide), if_neg (by rw [hk]; decide)]
        exact congrArg (fun z => pure (some z)) en
theorem sw_three {env : Env} {x y z : Str} {px py pz pp p2 : Pos} {kk k2 : Nat} {a b c : Expr} (hb : env.blockKind = .function) (hx : env.scope.names.lookup x = some .local) (hy : env.scope.names.lookup y = some .local) (hz : env.scope.names.lookup z = some .local) (hn : x ≠ y) (hn2 : x ≠ z) (hn3 : y ≠ z)
    (hl : (py.line == px.line) = true) (hl2 : (pz.line == px.line) = true)
    (hs : [a, b, c].all notStar = true) (hf : [a, b, c].all (foldedForSure 8) = false) (hk : [a, b, c].all (constantsAlone 8) = false) : swappedStores [.Tuple [.Name x px, .Name y py, .Name z pz] kk pp] (.Tuple [a, b, c] k2 p2) env = pure (some [x, y, z]) := by
  have e1 : (env.kindOf x == some .local) = true := by unfold Env.kindOf; rw [hx]; rfl
  have e2 : (env.kindOf y == some .local) = true := by unfold Env.kindOf; rw [hy]; rfl
  have e3 : (env.kindOf z == some .local) = true := by unfold Env.kindOf; rw [hz]; rfl
  unfold swappedStores
  dsimp only
  split
  · rename_i c
    rw [hb] at c
    exact Bool.noConfusion (show false = true from c)
  · split
    · rename_i c
      exact absurd ((no_star (env := env) hs).symm.trans c) (by decide)
    · have en : (List.filterMap (fun | Expr.Name id pos => if (env.kindOf id == some NameKind.local && pos.line == (([Expr.Name x px, Expr.Name y py, Expr.Name z pz].head?.map (·.pos.line)).getD 0)) = true then some id else none | _ => none) [Expr.Name x px, Expr.Name y py, Expr.Name z pz]) = [x, y, z] := by
        simp only [List.filterMap_cons, List.filterMap_nil, e1, e2, e3, List.head?_cons, Option.map_some, Option.getD_some, Expr.pos, beq_self_eq_true, Bool.and_self, if_true, hl, hl2]
      split
      · rename_i c
        exact absurd c (by
          show ¬ (((List.filterMap _ [Expr.Name x px, Expr.Name y py, Expr.Name z pz]).length != 3 || (List.filterMap _ [Expr.Name x px, Expr.Name y py, Expr.Name z pz]).eraseDups.length != (List.filterMap _ [Expr.Name x px, Expr.Name y py, Expr.Name z pz]).length) = true)
          erw [en, dedup3 hn hn2 hn3]
          exact fun z => Bool.noConfusion (show false = true from z))
      · rw [if_neg (by rw [hf]; decide), if_neg (by rw [hk]; decide)]
        exact congrArg (fun z => pure (some z)) en
theorem xd_end {H1 : Hp} {a d C : Addr} {fs : List (Str × V)} (ha : H1 a = none) (hda : d ≠ a) :
    upd (del (upd (upd (upd H1 a (exo a C none)) d (exd d fs)) a (exo a C (some d))) a) d (.xd fs) = upd H1 d (.xd fs) := by
  funext b
  by_cases hb : b = d
  · subst hb; rw [upd_same, upd_same]
  · rw [upd_ne hb, upd_ne hb]
    by_cases hb2 : b = a
    · subst hb2; rw [del_same, ha]
    · rw [del_ne hb2, upd_ne hb2, upd_ne hb, upd_ne hb2]
theorem CtxS.tr {X : Cx} {sc : Scope} {tb : Tab2} {Γ : Gam} (C : CtxS X sc tb Γ) (hh : tb.hot = false) (pn : List (Addr × Obj)) (xe : Value → Shared → Prop) (hp : PassesOwn (model X.prog X.w) X.A X.env xe) : CtxS (X.tr pn xe) sc tb Γ where
  sco := ⟨C.sco.vis, C.sco.loc, C.sco.gl, C.sco.cf⟩
  nd := C.nd
  calm := C.calm
  hu := C.hu
  fns := fun z i x h => ⟨(C.fns z i x h).ex, (C.fns z i x h).db⟩
  hot := fun z => (by rw [hh] at z; cases z)
  fnh := fun z => (by rw [hh] at z; cases z)
  xc := fun c e => (by have z := (C.xc c e).1; rw [hh] at z; cases z)
  gls := C.gls
  blt := C.blt
  scE := C.scE
  knd := C.knd
  own := hp
  stk := C.stk
  frm := C.frm
  xcs := fun z i x fs h => ⟨(C.xcs z i x fs h).ex, (C.xcs z i x fs h).db⟩
  hfns := fun z i x h => ⟨(C.hfns z i x h).ex, (C.hfns z i x h).db⟩
  kin := C.kin
  sub := C.sub
/-- within an except suite -/
theorem CtxS.suite {X : Cx} {sc : Scope} {tb : Tab2} {Γ : Gam} (C : CtxS X sc tb Γ) (hh : tb.hot = false) {a dx Cc : Addr} {oe : Obj} {pn : List (Addr × Obj)} {x : Str} {fs : List Str} {k : Nat} (hz : L2N.Zn (.ref Cc) (some dx) oe) (hf : ∃ vs, oe.data = .fields vs) (T : XcCls X.K Cc fs) (hk : tb.xcs[k]? = some (x, fs)) (hm : X.mg x = some (.ref Cc)) :
    CtxOk (X.suite a ((a, oe) :: pn)) sc tb.ht (Γ.inH ⟨a, dx, fs, tb.kin k⟩) where
  sco := ⟨C.sco.vis, C.sco.loc, C.sco.gl, C.sco.cf⟩
  nd := C.nd
  calm := fun z => (by cases z)
  hu := C.hu
  fns := fun z => (by cases z)
  hot := fun _ => by
    obtain ⟨vs, hd⟩ := hf
    exact ⟨(a, oe), ⟨rfl, vs, hd, hz.2.2 vs hd⟩, List.mem_cons_self⟩
  fnh := fun _ i x h => by
    obtain ⟨⟨k0, f, fd, ps, h1, h2, h3, h4, h5⟩, db⟩ := C.hfns hh i x h
    exact ⟨⟨k0, f, fd, ps, h1, h2, ⟨h3.dp, h3.un⟩, h4, h5⟩, db⟩
  xc := fun c e => by
    cases e
    exact ⟨rfl, oe, Cc, List.mem_cons_self, hz.zc, hf, T, fun y b e => C.kin k x fs Cc y b hk hm e⟩
  gls := C.gls
  blt := C.blt
theorem PIH.weak {X : Cx} {tg e : Expr} {t t' : TI} (h : L2H.PIH X tg e t) (w : ∀ σ H R, t' σ H R → t σ H R) : L2H.PIH X tg e t' := ⟨fun pins s σ H R I q => h.run pins s σ H R I (w σ H R q)⟩
section
variable {tb : Tab2} {Γ : Gam}
theorem nm_of {b c : Bool} {t : Tg} (h : (!b || (isNm t && c)) = true) : b = false ∨ (∃ i, t = .nm i) := by
  cases b with
  | false => exact .inl rfl
  | true =>
    simp only [Bool.not_true, Bool.false_or, Bool.and_eq_true] at h
    exact .inr (isNm_ex h.1)
/-- a walk over a range where an exception is handled -/
theorem sIH {X : Cx} {sc : Scope} {tb : Tab} (C : CtxOk X sc tb Γ) (W : UW) (tk : L2N.Takes X (cW X.K X.mg tb W)) (it : Ito) (t ex : Expr) (hr : isR1 it = true) (h : chkI X.N sc tb it t ex = true) : L2H.PIH X t ex (cI X.K (trI Γ W it)) := by
  cases it with
  | rng1 a =>
    unfold chkI at h
    split at h
    · simp only [Bool.and_eq_true, decide_eq_true_eq] at h
      obtain ⟨⟨⟨h1, h2⟩, h3⟩, h4⟩ := h
      subst h1
      refine PIH.weak (L2H.pi_range1H (C.sco.gl _ h2) (C.blt _ (by decide)) (one_a (sE a C W tk _ h4) h3) (star_each h3)) fun σ H R q => ?_
      obtain ⟨s, G, R0, hs, hg, q, k⟩ := q
      refine ⟨s, G, fun us G1 => match us with
        | [x] => (match x with
          | .int j => small62 j ∧ R0 [] (rangeU 0 1 j.toNat) G1
          | _ => False)
        | _ => False, hs, hg, q, fun us G1 vs H1 q1 r1 g1 e1 => ?_⟩
      dsimp only at q1
      split at q1
      · split at q1
        · obtain ⟨b, q1⟩ := q1
          cases r1 with
          | cons r rr =>
            cases r; cases rr
            unfold small62 at b
            exact ⟨_, rfl, by omega, by omega, k _ _ G1 H1 _ q1 g1 e1 (it_range1 _ _)⟩
        · exact q1.elim
      · exact q1.elim
    · cases h
  | _ => cases hr
theorem loc_of {X : Cx} {sc : Scope} (C : CtxS X sc tb Γ) {i : Nat} {x : Str} (h : locOnly X.N sc i x = true) : X.N[i]? = some x ∧ X.env.scope.names.lookup x = some .local := by
  unfold locOnly at h
  simp only [Bool.and_eq_true, decide_eq_true_eq] at h
  rw [C.scE]
  exact h
mutual
theorem sS : ∀ (st : Sm) {X : Cx} {sc : Scope} {nt : Bool}, CtxS X sc tb Γ → ∀ x : Stmt, chkS X.N sc tb nt st x = true → PS X x (cS X tb nt (trS tb Γ st))
  | .asg t e, X, sc, nt, C, x, h => by
    unfold chkS at h
    split at h
    · simp only [Bool.and_eq_true, Bool.not_eq_true'] at h
      obtain ⟨⟨⟨⟨⟨h0, h1⟩, h2⟩, h3⟩, h4⟩, h5⟩ := h
      refine ⟨fun pins s σ H D I q => ?_⟩
      obtain ⟨B, D0, s0, G, hB, tk, hs, hg, eB, q, P⟩ := q
      refine (ps_asg (sE e C.toCtxOk D0.ex tk _ h5) (sG C.toCtxOk t _ (nm_of (c := true) (by simpa using h0)) h4) (sw_not C.scE C.knd h2) (sw_stores_none C.scE C.knd h3) (by rw [assign_each h1]; rfl)).run pins s σ H D I ?_
      exact ⟨s0, G, _, hs, hg, q, fun u G1 v H1 q1 r1 g1 e1 => ⟨u, s0, G1, D0.nx, r1, hs.ext e1, g1, q1, fun s' G' σ' H' q' hs' hg' e' _ _ => P.nx s' G' σ' H' q' hs' hg' (eB.trans (e1.trans e'))⟩⟩
    · cases h
  | .par2 i j es, X, sc, nt, C, x, h => by
    unfold chkS at h
    split at h
    · rename_i x px y py kk pp a b k2 p2 pos
      simp only [Bool.and_eq_true, Bool.not_eq_true', decide_eq_true_eq] at h
      obtain ⟨⟨⟨⟨⟨⟨⟨⟨⟨⟨hh, h1⟩, h2⟩, h3⟩, h4⟩, h5⟩, h6⟩, h7⟩, h8⟩, h9⟩, h10⟩ := h
      obtain ⟨n1, l1⟩ := loc_of C h1
      obtain ⟨n2, l2⟩ := loc_of C h2
      have hb : X.env.blockKind = .function := by unfold Env.blockKind; rw [C.scE, C.knd]; rfl
      have sw : swappedStores [.Tuple [.Name x px, .Name y py] kk pp] (.Tuple [a, b] k2 p2) X.env = pure (some [x, y]) :=
        sw_two hb l1 l2 h4 h5 (by simp [h6, h7]) h8 h9
      refine ⟨fun pins s σ H D I q => ?_⟩
      obtain ⟨B, D0, s0, G, hB, tk, hs, hg, eB, q, P⟩ := q
      refine (ps_par (C.calm hh) C.nd n1 n2 h3 l1 l2 (sA es C.toCtxOk D0.ex tk _ h10) sw).run pins s σ H D I ?_
      refine ⟨s0, G, _, hs, hg, q, fun us G1 vs H1 q1 r1 g1 e1 => ?_⟩
      split at q1
      · cases r1 with
        | cons r r1 =>
          cases r1 with
          | cons r2 r1 =>
            cases r1
            refine ⟨_, _, rfl, P.nx _ G1 _ H1 q1 ?_ g1 (eB.trans e1)⟩
            rw [setS_eq, setS_eq]
            exact ((hs.ext e1).set r).set r2
      · exact q1.elim
    · cases h
  | .par3 i j l es, X, sc, nt, C, x, h => by
    unfold chkS at h
    split at h
    · rename_i x px y py z pz kk pp a b c k2 p2 pos
      simp only [Bool.and_eq_true, Bool.not_eq_true', decide_eq_true_eq] at h
      obtain ⟨⟨⟨⟨⟨⟨⟨⟨⟨⟨⟨⟨⟨⟨⟨⟨⟨hh, h1⟩, h2⟩, h3⟩, d1⟩, d2⟩, d3⟩, d4⟩, d5⟩, d6⟩, p1⟩, p2'⟩, b1⟩, b2⟩, b3⟩, f1⟩, f2⟩, h10⟩ := h
      obtain ⟨n1, l1⟩ := loc_of C h1
      obtain ⟨n2, l2⟩ := loc_of C h2
      obtain ⟨n3, l3⟩ := loc_of C h3
      have hb : X.env.blockKind = .function := by unfold Env.blockKind; rw [C.scE, C.knd]; rfl
      have sw : swappedStores [.Tuple [.Name x px, .Name y py, .Name z pz] kk pp] (.Tuple [a, b, c] k2 p2) X.env = pure (some [x, y, z]) :=
        sw_three hb l1 l2 l3 d4 d5 d6 p1 p2' (by simp [b1, b2, b3]) f1 f2
      refine ⟨fun pins s σ H D I q => ?_⟩
      obtain ⟨B, D0, s0, G, hB, tk, hs, hg, eB, q, P⟩ := q
      refine (ps_par3 (C.calm hh) C.nd n1 n2 n3 d1 d2 d3 l1 l2 l3 (sA es C.toCtxOk D0.ex tk _ h10) sw).run pins s σ H D I ?_
      refine ⟨s0, G, _, hs, hg, q, fun us G1 vs H1 q1 r1 g1 e1 => ?_⟩
      split at q1
      · cases r1 with
        | cons r r1 =>
          cases r1 with
          | cons r2 r1 =>
            cases r1 with
            | cons r3 r1 =>
              cases r1
              refine ⟨_, _, _, rfl, P.nx _ G1 _ H1 q1 ?_ g1 (eB.trans e1)⟩
              rw [setS_eq, setS_eq, setS_eq]
              exact (((hs.ext e1).set r).set r2).set r3
      · exact q1.elim
    · cases h
  | .setLc i elt tg it c, X, sc, nt, C, x, h => by
    unfold chkS at h
    split at h
    · rename_i y py el t ii ifs scope pos spos
      simp only [Bool.and_eq_true, Bool.not_eq_true'] at h
      obtain ⟨⟨⟨⟨hh, h1⟩, h2⟩, h3⟩, h4⟩ := h
      obtain ⟨n1, l1⟩ := loc_of C h1
      unfold chkE at h4
      simp only [Bool.and_eq_true] at h4
      obtain ⟨⟨⟨⟨⟨⟨_, k1⟩, k2⟩, k3⟩, k4⟩, k5⟩, k6⟩ := h4
      refine ⟨fun pins s σ H D I q => ?_⟩
      obtain ⟨B, D0, s0, G, hB, tk, hs, hg, eB, q, P⟩ := q
      have C0 := C.toCtxOk
      have R := ps_setLc (i := i) (py := py) (spos := spos) (pos := pos) (g := cG X.K (slotsG tg) (trG tg)) (te := cE X.K (trE Γ (fun _ _ _ => False) elt)) (tt := cT X.K (trC Γ (fun _ _ _ => False) c)) (C.calm hh) C.nd n1 l1 (sw_true (by rw [C.scE]; exact C.knd) l1 h2 h3)
        (sI it C0 D0.ex tk t ii k3) (blk_ok C0 k2) (fun s H Cc cl fp => sG (C0.blk hh s H scope Cc cl fp) tg t (.inl hh) k4)
        (fun s H Cc cl fp => sC c (C0.blk hh s H scope Cc cl fp) (fun _ _ _ => False) (takes_false fun _ _ _ _ z => by obtain ⟨_, _, _, _, _, _, z⟩ := z; exact z) ifs k5)
        (fun s H Cc cl fp => sE elt (C0.blk hh s H scope Cc cl fp) (fun _ _ _ => False) (takes_false fun _ _ _ _ z => by obtain ⟨_, _, _, _, _, _, z⟩ := z; exact z) el k6) (not_set k1)
      rw [own_snd] at R
      refine R.run pins s σ H D I ?_
      refine lc_conv ⟨s0, G, _, hs, hg, q, fun u G1 v H1 q1 r1 g1 e1 => P.nx _ G1 _ H1 q1 ?_ g1 (eB.trans e1)⟩
      rw [setS_eq]
      exact (hs.ext e1).set r1
    · cases h
  | .sub o i e, X, sc, nt, C, x, h => by
    unfold chkS at h
    split at h
    · simp only [Bool.and_eq_true, Bool.not_eq_true'] at h
      obtain ⟨⟨⟨⟨h1, h2⟩, h3⟩, h4⟩, h5⟩ := h
      refine ⟨fun pins s σ H D I q => ?_⟩
      obtain ⟨B, D0, s0, G, hB, tk, hs, hg, eB, q, P⟩ := q
      refine (ps_asg (sE e C.toCtxOk D0.ex tk _ h4) (pg_sub (sE o C.toCtxOk D0.ex tk _ h2) (sE i C.toCtxOk D0.ex tk _ h3) (pset_any (by have := C.hu; omega)) (plain_st h1)) (sw_not C.scE C.knd h5) (sw_stores_none C.scE C.knd (by cases ‹Expr› <;> rfl)) rfl).run pins s σ H D I ?_
      refine ⟨s0, G, _, hs, hg, q, fun u G1 v H1 q1 r1 g1 e1 => ⟨s0, G1, _, hs.ext e1, g1, q1, fun x G2 v2 H2 q2 r2 g2 e2 => ⟨s0, G2, _, hs.ext (e1.trans e2), g2, q2, fun y G3 v3 H3 q3 r3 g3 e3 => ?_⟩⟩⟩
      exact ⟨x, y, u, G3, _, RU.ext e3 r2, r3, RU.ext (e2.trans e3) r1, g3, q3, fun G4 H4 q4 g4 e4 => P.nx s0 G4 σ H4 q4 (hs.ext (((e1.trans e2).trans e3).trans e4)) g4 (eB.trans (((e1.trans e2).trans e3).trans e4))⟩
    · cases h
  | .aug i op e, X, sc, nt, C, x, h => by
    unfold chkS at h
    split at h
    · simp only [Bool.and_eq_true, decide_eq_true_eq] at h
      obtain ⟨⟨⟨h1, h2⟩, h3⟩, h4⟩ := h
      subst h1
      obtain ⟨hl, hf⟩ := C.sco.loc _ h3
      refine ⟨fun pins s σ H D I q => ?_⟩
      obtain ⟨B, D0, s0, G, hB, tk, hs, hg, eB, q, P⟩ := q
      refine (ps_aug C.nd h2 hl (sE e C.toCtxOk D0.ex tk _ h4) (pip_any op) hf).run pins s σ H D I ?_
      unfold trS at q
      split at q
      · rename_i u hu
        obtain ⟨v, hv, rv⟩ := hs.at_ i u (getS_some hu)
        refine ⟨v, hv, s0, G, _, hs, hg, q, fun y G1 w H1 q1 r1 g1 e1 => ⟨u, y, G1, _, RU.ext e1 rv, r1, g1, q1, fun z G2 w2 H2 q2 r2 g2 e2 => P.nx _ G2 _ H2 q2 ?_ g2 (eB.trans (e1.trans e2))⟩⟩
        rw [setS_eq]
        exact (hs.ext (e1.trans e2)).set r2
      · exact q.elim
    · cases h
  | .augS o i op e, X, sc, nt, C, x, h => by
    unfold chkS at h
    split at h
    · simp only [Bool.and_eq_true, decide_eq_true_eq] at h
      obtain ⟨⟨⟨⟨h1, h2⟩, h3⟩, h4⟩, h5⟩ := h
      subst h1
      refine ⟨fun pins s σ H D I q => ?_⟩
      obtain ⟨B, D0, s0, G, hB, tk, hs, hg, eB, q, P⟩ := q
      refine (ps_augS (sE o C.toCtxOk D0.ex tk _ h3) (sE i C.toCtxOk D0.ex tk _ h4) (get_u (by have := C.hu; omega)) (sE e C.toCtxOk D0.ex tk _ h5) (pip_any op) (pset_any (by have := C.hu; omega)) (plain_aug h2)).run pins s σ H D I ?_
      refine ⟨s0, G, _, hs, hg, q, fun x G1 v1 H1 q1 r1 g1 e1 => ⟨s0, G1, _, hs.ext e1, g1, q1, fun y G2 v2 H2 q2 r2 g2 e2 => ?_⟩⟩
      refine ⟨x, y, G2, _, RU.ext e2 r1, r2, g2, q2, fun z G3 v3 H3 q3 r3 g3 e3 => ⟨s0, G3, _, hs.ext ((e1.trans e2).trans e3), g3, q3, fun v G4 v4 H4 q4 r4 g4 e4 => ?_⟩⟩
      refine ⟨z, v, G4, _, RU.ext e4 r3, r4, g4, q4, fun w G5 v5 H5 q5 r5 g5 e5 => ?_⟩
      exact ⟨x, y, w, G5, _, RU.ext (((e2.trans e3).trans e4).trans e5) r1, RU.ext ((e3.trans e4).trans e5) r2, r5, g5, q5, fun G6 H6 q6 g6 e6 => P.nx s0 G6 σ H6 q6 (hs.ext (((((e1.trans e2).trans e3).trans e4).trans e5).trans e6)) g6 (eB.trans (((((e1.trans e2).trans e3).trans e4).trans e5).trans e6))⟩
    · cases h
  | .setF o f e, X, sc, nt, C, x, h => by
    unfold chkS at h
    split at h
    · rename_i ox og op ov opos
      simp only [Bool.and_eq_true, Bool.not_eq_true', decide_eq_true_eq] at h
      obtain ⟨⟨⟨⟨h1, h2⟩, h3⟩, h4⟩, h5⟩ := h
      subst h1
      refine ⟨fun pins s σ H D I q => ?_⟩
      obtain ⟨B, D0, s0, G, hB, tk, hs, hg, eB, q, P⟩ := q
      refine (ps_fld (sE o C.toCtxOk D0.ex tk _ h3) (sE e C.toCtxOk D0.ex tk _ h4) (sw_not (l := opos.line) C.scE C.knd h5)).run pins s σ H D I ?_
      refine ⟨s0, G, _, hs, hg, q, fun u G1 v H1 q1 r1 g1 e1 => ⟨s0, G1, _, hs.ext e1, g1, q1, fun x G2 v2 H2 q2 r2 g2 e2 => ?_⟩⟩
      obtain ⟨a, y, ns, fs, dx, xs, rfl, rfl, hG, hH, rk, c, n, hn, hl, q2⟩ := uObj_of g2 r2 q2
      obtain ⟨e3, g3⟩ := g2.setIns hG hH (rk.putF (f := f) (RU.ext e2 r1))
      exact ⟨a, _, dx, xs, rfl, hH, c, n f (by simpa using hn), by rw [← rk.len]; exact hl, P.nx s0 _ σ _ q2 (hs.ext ((e1.trans e2).trans e3)) g3 (eB.trans ((e1.trans e2).trans e3))⟩
    · cases h
  | .augF o f op e, X, sc, nt, C, x, h => by
    unfold chkS at h
    split at h
    · simp only [Bool.and_eq_true, decide_eq_true_eq] at h
      obtain ⟨⟨⟨h1, h2⟩, h3⟩, h4⟩ := h
      subst h1
      subst h2
      refine ⟨fun pins s σ H D I q => ?_⟩
      obtain ⟨B, D0, s0, G, hB, tk, hs, hg, eB, q, P⟩ := q
      refine (ps_fldaug (sE o C.toCtxOk D0.ex tk _ h3) (sE e C.toCtxOk D0.ex tk _ h4) (rd := cIp X.K (uIp op)) (fun pins s σ H x y u v Q I rx ry z => pip_any op pins s σ H x y u v Q I rx ry z)).run pins s σ H D I ?_
      refine ⟨s0, G, _, hs, hg, q, fun x G1 v1 H1 q1 r1 g1 e1 => ?_⟩
      obtain ⟨a, y, ns, fs, dx, xs, rfl, rfl, hG, hH, rk, c, n, hn, q1⟩ := uObj_of g1 r1 q1
      rcases rk.look (f := f) with ⟨l1, _⟩ | ⟨u, v, l1, l2, r⟩
      · rw [l1] at q1
        exact q1.elim
      · rw [l1] at q1
        refine ⟨a, _, dx, xs, v, rfl, hH, c, n f (by simpa using hn), l2, s0, G1, _, hs.ext e1, g1, q1, fun w G2 v2 H2 q2 r2 g2 e2 => ?_⟩
        refine ⟨u, w, G2, _, RU.ext e2 r, r2, g2, q2, fun z G3 v3 H3 q3 r3 g3 e3 => ?_⟩
        obtain ⟨a', y', ns', fs', dx', xs', ea, ea', hG', hH', rk', c', n', hy', hn', hl', q5⟩ := uObj_of g3 (RU.ref a) q3
        cases ea
        subst hy'
        obtain ⟨e4, g4⟩ := g3.setIns hG' hH' (rk'.putF (f := f) r3)
        exact ⟨dx', xs', hH', by rw [← rk'.len]; exact hl', P.nx s0 _ σ _ q5 (hs.ext (((e1.trans e2).trans e3).trans e4)) g4 (eB.trans (((e1.trans e2).trans e3).trans e4))⟩
    · cases h
  | .delTo o c, X, sc, nt, C, x, h => by
    unfold chkS at h
    split at h
    · simp only [Bool.and_eq_true] at h
      refine ⟨fun pins s σ H D I q => ?_⟩
      obtain ⟨B, D0, s0, G, hB, tk, hs, hg, eB, q, P⟩ := q
      refine (ps_delTo (sE o C.toCtxOk D0.ex tk _ h.1) (sE c C.toCtxOk D0.ex tk _ h.2)).run pins s σ H D I ?_
      refine ⟨s0, G, _, hs, hg, q, fun x G1 v1 H1 q1 r1 g1 e1 => ⟨s0, G1, _, hs.ext e1, g1, q1, fun y G2 v2 H2 q2 r2 g2 e2 => ?_⟩⟩
      unfold uDelTo at q2
      split at q2
      · cases r1; cases r2
        split at q2
        · rename_i us hu
          obtain ⟨xs, h1, r1⟩ := g2.lst hu
          obtain ⟨e3, g3⟩ := g2.setLst hu (r1.drop _)
          exact ⟨_, xs, _, rfl, rfl, h1, q2.1, by rw [← r1.length]; exact q2.2.1, P.nx s0 _ σ _ q2.2.2 (hs.ext ((e1.trans e2).trans e3)) g3 (eB.trans ((e1.trans e2).trans e3))⟩
        · exact q2.elim
      · exact q2.elim
    · cases h
  | .expr e, X, sc, nt, C, x, h => by
    unfold chkS at h
    split at h
    · simp only [Bool.and_eq_true, Bool.not_eq_true'] at h
      refine ⟨fun pins s σ H D I q => ?_⟩
      obtain ⟨B, D0, s0, G, hB, tk, hs, hg, eB, q, P⟩ := q
      refine (ps_expr (sE e C.toCtxOk D0.ex tk _ h.2) (sw_none h.1)).run pins s σ H D I ?_
      exact ⟨s0, G, _, hs, hg, q, fun u G1 v H1 q1 r1 g1 e1 => P.nx s0 G1 σ H1 q1 (hs.ext e1) g1 (eB.trans e1)⟩
    · cases h
  | .doc, X, sc, nt, C, x, h => by
    unfold chkS at h
    split at h
    · refine PS.weak ps_doc fun D σ H q => ?_
      obtain ⟨B, D0, s0, G, hB, tk, hs, hg, eB, q, P⟩ := q
      exact P.nx s0 G σ H q hs hg eB
    · cases h
  | .ret e, X, sc, nt, C, x, h => by
    unfold chkS at h
    split at h
    · refine ⟨fun pins s σ H D I q => ?_⟩
      obtain ⟨B, D0, s0, G, hB, tk, hs, hg, eB, q, P⟩ := q
      refine (ps_ret (sE e C.toCtxOk D0.ex tk _ h)).run pins s σ H D I ?_
      exact ⟨s0, G, _, hs, hg, q, fun u G1 v H1 q1 r1 g1 e1 => P.rt u G1 v H1 q1 r1 g1 (eB.trans e1)⟩
    · cases h
  | .retN, X, sc, nt, C, x, h => by
    unfold chkS at h
    split at h
    · refine PS.weak ps_retN fun D σ H q => ?_
      obtain ⟨B, D0, s0, G, hB, tk, hs, hg, eB, q, P⟩ := q
      exact P.rt .non G .non H q .non hg eB
    · cases h
  | .ife c a b, X, sc, nt, C, x, h => by
    unfold chkS at h
    split at h
    · simp only [Bool.and_eq_true] at h
      obtain ⟨⟨h1, h2⟩, h3⟩ := h
      refine ⟨fun pins s σ H D I q => ?_⟩
      obtain ⟨B, D0, s0, G, hB, tk, hs, hg, eB, q, P⟩ := q
      refine (ps_if (sT c C.toCtxOk D0.ex tk _ h1) (sSs a C _ h2) (sSs b C _ h3)).run pins s σ H D I ?_
      refine ⟨s0, G, _, hs, hg, q, fun k G1 H1 q1 g1 e1 => ?_⟩
      cases k with
      | true => exact ⟨B, D0, s0, G1, hB, tk, hs.ext e1, g1, eB.trans e1, by simpa using q1, P⟩
      | false => exact ⟨B, D0, s0, G1, hB, tk, hs.ext e1, g1, eB.trans e1, by simpa using q1, P⟩
    · cases h
  | .whl c b, X, sc, nt, C, x, h => by
    unfold chkS at h
    split at h
    · simp only [Bool.and_eq_true] at h
      obtain ⟨h1, h2⟩ := h
      refine ⟨fun pins s σ H D I q => ?_⟩
      obtain ⟨B, D0, s0, G, hB, tk, hs, hg, eB, q, P⟩ := q
      refine (ps_while C.own (sT c C.toCtxOk D0.ex tk _ h1) (sSs b C _ h2)).run pins s σ H D I ?_
      obtain ⟨Iv, ⟨m, h0⟩, q⟩ := q
      refine ⟨fun m σ1 H1 => ∃ s1 G1, SR X.K H1 s1 σ1 ∧ HR X.K G1 H1 ∧ Ext B H1 ∧ Iv m s1 G1, ⟨m, s0, G, hs, hg, eB, h0⟩, fun m σ1 H1 w => ?_⟩
      obtain ⟨s1, G1, hs1, hg1, eB1, w⟩ := w
      refine ⟨s1, G1, _, hs1, hg1, q m s1 G1 w, fun k G2 H2 q2 g2 e2 => ?_⟩
      cases k with
      | true =>
        simp only [if_true] at q2 ⊢
        refine ⟨fun σ3 H3 => ∃ m' s3 G4, m' < m ∧ SR X.K H3 s3 σ3 ∧ HR X.K G4 H3 ∧ Ext B H3 ∧ Iv m' s3 G4, fun σ3 H3 z => ?_, ?_⟩
        · obtain ⟨m', s3, G4, z1, z2, z3, z4, z5⟩ := z
          exact ⟨m', z1, s3, G4, z2, z3, z4, z5⟩
        · refine ⟨B, ⟨fun s2 G3 => ∃ m' G4, m' < m ∧ Le G4 G3 ∧ Iv m' s2 G4, D0.rt, D0.nx, fun s2 G3 => ∃ m' G4, m' < m ∧ Le G4 G3 ∧ Iv m' s2 G4, D0.ex⟩, s1, G2, hB, tk, hs1.ext e2, g2, eB1.trans e2, q2, ⟨?_, ?_, ?_, ?_⟩⟩
          · rintro s3 G3 σ3 H3 ⟨m', G4, z1, z2, z3⟩ hs3 hg3 eB3
            exact ⟨m', s3, G4, z1, hs3, hg3.le z2, eB3, z3⟩
          · exact P.rt
          · exact P.nx
          · rintro s3 G3 σ3 H3 ⟨m', G4, z1, z2, z3⟩ hs3 hg3 eB3
            exact ⟨m', s3, G4, z1, hs3, hg3.le z2, eB3, z3⟩
      | false =>
        simp only [Bool.false_eq_true, if_false] at q2 ⊢
        exact P.nx s1 G2 σ1 H2 q2 (hs1.ext e2) g2 (eB1.trans e2)
    · cases h
  | .for_ t it b, X, sc, nt, C, x, h => by
    unfold chkS at h
    split at h
    · rename_i tgE itE bodyE posE
      simp only [Bool.and_eq_true] at h
      obtain ⟨⟨⟨⟨h0, h1⟩, h2⟩, h3⟩, h4⟩ := h
      refine ⟨fun pins s σ H D I q => ?_⟩
      obtain ⟨B, D0, s0, G, hB, tk, hs, hg, eB, q, P⟩ := q
      have run : PS X (.For tgE itE bodyE [] posE) (tFor (cI X.K (trI Γ D0.ex it)) (cG X.K (slotsG t) (trG t)) (cS X tb true (trSs tb Γ b))) := by
        cases hh : tb.hot with
        | false => exact ps_for C.own (C.calm hh) (sI it C.toCtxOk D0.ex tk _ _ h3) (sG C.toCtxOk t _ (.inl hh) h2) (sSs b (nt := true) C _ h4) (not_set h1)
        | true => exact L2H.ps_forH C.own (C.hot hh) (sIH C.toCtxOk D0.ex tk it _ _ (by rw [hh] at h0; simp at h0; exact h0.2) h3) (sG C.toCtxOk t _ (nm_of h0) h2) (sSs b (nt := true) C _ h4) (not_set h1)
      refine run.run pins s σ H D I ?_
      refine ⟨s0, G, _, hs, hg, q, fun ds ys G1 H1 J q1 g1 e1 ir => ?_⟩
      have f0 : ∀ i, i < ys.length → ∃ u, ys[i]? = some u ∧ ys.drop i = u :: ys.drop (i + 1) := fun i hi => ⟨ys[i], by simp [hi], by rw [List.drop_eq_getElem_cons hi]⟩
      refine ⟨fun i m σ2 H2 => i + m = ys.length ∧ ∃ s2 G2, SR X.K H2 s2 σ2 ∧ HR X.K G2 H2 ∧ Ext H1 H2 ∧ forU ds (trG t) (trSs tb Γ b) D0 (ys.drop i) s2 G2, ⟨ys.length, by omega, s0, G1, hs.ext e1, g1, .refl, by simpa using q1⟩, fun i m σ2 H2 w => ?_⟩
      obtain ⟨hm, s2, G2, hs2, hg2, e2, f⟩ := w
      by_cases hi : i < ys.length
      · obtain ⟨u, hu, hd⟩ := f0 i hi
        rw [hd] at f
        unfold forU at f
        obtain ⟨dk, gq⟩ := f
        refine .inr ⟨ir.go i G2 H2 hg2 dk e2 hi, fun σ3 H3 => ∃ s3 G3, SR X.K H3 s3 σ3 ∧ HR X.K G3 H3 ∧ Ext H1 H3 ∧ forU ds (trG t) (trSs tb Γ b) D0 (ys.drop (i + 1)) s3 G3, fun σ3 H3 z => ⟨m - 1, by omega, by omega, z⟩, fun x H3 yl => ?_⟩
        obtain ⟨u', hu', ru, hg3, e3⟩ := ir.yld i G2 H2 x H3 hg2 dk e2 yl hi
        rw [hu] at hu'
        cases hu'
        refine ⟨u, s2, G2, _, ru, hs2.ext e3, hg3, gq, fun s4 G4 σ4 H4 q4 hs4 hg4 e4 _ _ => ?_⟩
        refine ⟨H1, ⟨fun s2 G2 => ∃ G3, Le G3 G2 ∧ forU ds (trG t) (trSs tb Γ b) D0 (ys.drop (i + 1)) s2 G3, D0.rt, D0.nx, fun s2 G2 => ∃ G3, Le G3 G2 ∧ forU ds (trG t) (trSs tb Γ b) D0 (ys.drop (i + 1)) s2 G3, D0.ex⟩, s4, G4, .inl rfl, tk, hs4, hg4, (e2.trans e3).trans e4, q4, ⟨?_, ?_, ?_, ?_⟩⟩
        · rintro s5 G5 σ5 H5 ⟨G6, z1, z2⟩ hs5 hg5 e5
          exact ⟨s5, G6, hs5, hg5.le z1, e5, z2⟩
        · intro u G v H q r g e
          exact P.rt u G v H q r g ((eB.trans e1).trans e)
        · intro s G σ H q r g e
          exact P.nx s G σ H q r g ((eB.trans e1).trans e)
        · rintro s5 G5 σ5 H5 ⟨G6, z1, z2⟩ hs5 hg5 e5
          exact ⟨s5, G6, hs5, hg5.le z1, e5, z2⟩
      · have ei : i = ys.length := by omega
        subst ei
        rw [List.drop_length] at f
        unfold forU at f
        exact .inl ⟨ir.stop G2 H2 hg2 f.1 e2, P.nx s2 G2 σ2 H2 f.2 hs2 hg2 ((eB.trans e1).trans e2)⟩
    · cases h
  | .brk, X, sc, nt, C, x, h => by
    unfold chkS at h
    split at h
    · refine PS.weak ps_break fun D σ H q => ?_
      obtain ⟨B, D0, s0, G, hB, tk, hs, hg, eB, q, P⟩ := q
      exact P.bk s0 G σ H q hs hg eB
    · cases h
  | .cont, X, sc, nt, C, x, h => by
    unfold chkS at h
    split at h
    · refine PS.weak ps_continue fun D σ H q => ?_
      obtain ⟨B, D0, s0, G, hB, tk, hs, hg, eB, q, P⟩ := q
      exact P.ct s0 G σ H q hs hg eB
    · cases h
  | .pass, X, sc, nt, C, x, h => by
    unfold chkS at h
    split at h
    · refine PS.weak ps_pass fun D σ H q => ?_
      obtain ⟨B, D0, s0, G, hB, tk, hs, hg, eB, q, P⟩ := q
      exact P.nx s0 G σ H q hs hg eB
    · cases h
  | .raise k es, X, sc, nt, C, x, h => by
    unfold chkS at h
    split at h
    · simp only [Bool.and_eq_true, decide_eq_true_eq] at h
      obtain ⟨⟨⟨hh, h1⟩, h2⟩, h3⟩ := h
      have hh : tb.hot = false := by simpa using hh
      rw [Option.map_eq_some_iff] at h1
      obtain ⟨⟨x, fs⟩, hk, rfl⟩ := h1
      obtain ⟨⟨Cc, fI, fd, kk, ps, sp, hm, T, To, iC, tI, F1, hr, hb, hl, hsp⟩, db⟩ := C.xcs hh k x fs hk
      have st := chkA_star h3
      simp only [List.all_cons, Bool.and_eq_true] at st
      refine ⟨fun pins s σ H D I q => ?_⟩
      obtain ⟨B, D0, s0, G, hB, tk, hs, hg, eB, q, P⟩ := q
      refine (L2N.ps_raise (C.calm hh) tk (pmkN To iC tI F1 hr hb (fun _ _ _ _ _ _ _ z => by obtain ⟨_, _, _, _, _, _, _, _, _, _, _, _, z⟩ := z; exact z.elim) (C.sco.gl _ h2) hm (sA es C.toCtxOk D0.ex tk _ h3) db (star_each st.1) (star_any st.2))).run pins s σ H D I ?_
      refine ⟨s0, G, _, hs, hg, q, fun us G1 vs H1 q1 r1 g1 e1 => ?_⟩
      obtain ⟨l1, q1⟩ := q1
      rw [hk] at l1
      simp only [Option.map_some, Option.some.injEq] at l1
      have l2 := r1.length
      refine ⟨by omega, fun a ha => ?_⟩
      rw [List.append_nil]
      refine hsp a vs _ _ (by omega) upd_same fun d hd hda => ⟨rfl, d, _, upd_same, (upd_ne hda).trans upd_same, ?_, ?_⟩
      · rw [upd_ne hda] at hd; exact hd
      · rw [upd_ne hda] at hd
        rw [xd_end ha hda]
        have e2 : Ext H1 (upd H1 d (.xd (fs.zip vs.reverse))) := .new hd
        exact ⟨(k, us.reverse), s0, G1, hs.ext (e1.trans e2), g1.side e2 (g1.fresh hd), ⟨x, fs, Cc, d, vs.reverse, hk, hm, rfl, rfl, upd_same, by rw [List.length_reverse]; omega, RUs.ext e2 r1.reverse, g1.fresh hd⟩, q1⟩
    · cases h
  | .tryAs b k i hx, X, sc, nt, C, x, h => by
    unfold chkS at h
    split at h
    · rename_i body x xp n v rp hp pos
      simp only [Bool.and_eq_true, Bool.not_eq_true', decide_eq_true_eq] at h
      obtain ⟨⟨⟨⟨⟨⟨⟨⟨⟨hh, h0⟩, h1⟩, h2⟩, h3⟩, h4⟩, h5⟩, h6⟩, h7⟩, h8⟩ := h
      rw [Option.map_eq_some_iff] at h1
      obtain ⟨⟨x, fs⟩, hk, rfl⟩ := h1
      obtain ⟨⟨Cc, fI, fd, kk, ps, sp, hm, T, To, iC, tI, F1, hr, hb, hl, hsp⟩, db⟩ := C.xcs hh k x fs hk
      obtain ⟨n1, l1⟩ := loc_of C h4
      refine ⟨fun pins s σ H D I q => ?_⟩
      obtain ⟨B, D0, s0, G, hB, tk, hs, hg, eB, q, P⟩ := q
      rcases hB with hB | hB
      · rw [h0] at hB; cases hB
      subst hB
      have hi : i < X.N.length := by
        rw [List.getElem?_eq_some_iff] at n1
        exact n1.1
      refine (L2N.ps_try_as (i := i) (tb := fun W D σ H => ∃ D0 s G, (∀ cls d σ H, Ext X.H_0 H → σ.length = X.N.length → cW X.K X.mg tb.toTab D0.ex cls d σ H → W cls d σ H) ∧ SR X.K H s σ ∧ HR X.K G H ∧ Ext X.H_0 H ∧ trSs tb Γ b D0 s G ∧ Post X.K X.H_0 D0 D)
        (ts := fun a cls d => tRet (fun σ H Q => ∃ x fs C dx s G Q0 xk, tb.xcs[xk]? = some (x, fs) ∧ X.mg x = some (.ref C) ∧ cls = .ref C ∧ d = some dx ∧ XcCls X.K C fs ∧ SR X.K H s σ ∧ HR X.K G H ∧ trE (Γ.inH ⟨a, dx, fs, tb.kin xk⟩) (fun _ _ _ => False) hx s G Q0 ∧ ∀ u G' v H', Q0 u G' → RU X.K H' u v → HR X.K G' H' → Ext H H' → Q v H')) (Wout := cW X.K X.mg tb.toTab D0.ex) C.stk C.frm C.nd n1 l1 ⟨C.sco.gl _ h2, h3, .inl hm⟩ tk ?_ ?_).run pins s σ H D I ?_
      · intro W pn xe tkW hp
        refine ⟨fun pins s σ H D I q => ?_⟩
        obtain ⟨D1, s1, G1, cw, hs1, hg1, e1, q1, P1⟩ := q
        exact (sSs b (nt := nt) (C.tr hh pn xe hp) _ h7).run pins s σ H D I ⟨X.H_0, D1, s1, G1, .inr rfl, takes_ext tkW fun c d σ H e l w => cw c d σ H e l w, hs1, hg1, e1, q1, P1⟩
      · intro a oe cls d pn hz hf
        refine pss_one (ps_ret ⟨fun pins s σ H Q I q => ?_⟩)
        obtain ⟨x', fs', C', dx, s1, G1, Q0, xk, a1, a2, rfl, rfl, T2, hs1, hg1, q1, kq⟩ := q
        exact (sE hx (C.suite (a := a) (pn := pn) hh hz hf T2 a1 a2) (fun _ _ _ => False) (takes_false fun _ _ _ _ z => by obtain ⟨_, _, _, _, _, _, z⟩ := z; exact z) v h8).run pins s σ H Q I ⟨s1, G1, Q0, hs1, hg1, q1, kq⟩
      · refine ⟨_, s0, G, fun cls d σ' H' e' l' w => ?_, hs, hg, eB, q, ⟨P.nx, P.rt, P.bk, P.ct⟩⟩
        obtain ⟨xn, s1, G1, hs1, hg1, xr, w⟩ := w
        have xr0 := xr
        obtain ⟨x', fs', C', dx, vs, a1, a2, a3, a4, a5, a6, a7, a8⟩ := xr
        obtain ⟨⟨C2, _, _, _, _, _, hm2, T2, _⟩, _⟩ := C.xcs hh xn.1 x' fs' a1
        rw [a2] at hm2
        cases hm2
        refine ⟨tb.sub xn.1 k, by rw [a3]; exact C.sub xn.1 k x' x fs' fs C' Cc a1 hk a2 hm, fun hb a ha => ?_, fun hb => ?_⟩
        · dsimp only at w
          rw [if_pos hb] at w
          obtain ⟨x2, fs2, b1, w⟩ := w
          rw [a1] at b1
          cases b1
          have na : a ≠ dx := fun z => by rw [z, a5] at ha; cases ha
          refine ⟨x', fs', C', dx, _, _, D0.rt, xn.1, a1, a2, a3, a4, T2, ?_, ?_, w a dx (hg1.fresh ha) a8 na, fun u G' v H'' q' r' g' e'' => P.rt u G' v H'' q' r' g' (e'.trans e'')⟩
          · rw [setS_eq]
            exact hs1.set (.ref a)
          · intro b o e
            by_cases z : b = dx
            · subst z
              rw [up_same] at e
              cases e
              exact ⟨_, a5, zip_rkv a7⟩
            · rw [up_ne z] at e
              exact hg1 b o e
        · dsimp only at w
          rw [hb, if_neg Bool.false_ne_true] at w
          exact ⟨xn, s1, G1, hs1, hg1, xr0, w⟩
    · cases h
theorem sSs : ∀ (st : Sms) {X : Cx} {sc : Scope} {nt : Bool}, CtxS X sc tb Γ → ∀ x : List Stmt, chkSs X.N sc tb nt st x = true → PSs X x (cS X tb nt (trSs tb Γ st))
  | .nil, X, sc, nt, C, [], h => by
    refine PSs.weak pss_nil fun D σ H q => ?_
    obtain ⟨B, D0, s0, G, hB, tk, hs, hg, eB, q, P⟩ := q
    exact P.nx s0 G σ H q hs hg eB
  | .nil, X, sc, nt, C, _ :: _, h => by cases h
  | .cons _ _, X, sc, nt, C, [], h => by cases h
  | .cons st ss, X, sc, nt, C, x :: xs, h => by
    simp only [chkSs, Bool.and_eq_true] at h
    refine PSs.weak (pss_cons (sS st C _ h.1) (sSs ss C _ h.2)) fun D σ H q => ?_
    obtain ⟨B, D0, s0, G, hB, tk, hs, hg, eB, q, P⟩ := q
    refine ⟨B, { D0 with nx := fun s1 G1 => trSs tb Γ ss D0 s1 G1 }, s0, G, hB, tk, hs, hg, eB, q, ⟨fun s1 G1 σ1 H1 q1 hs1 hg1 e1 => ?_, P.rt, P.bk, P.ct⟩⟩
    exact ⟨B, D0, s1, G1, hB, tk, hs1, hg1, e1, q1, P⟩
end
end
end UL
set_option Elab.async false
set_option linter.all false
set_option autoImplicit false
set_option maxRecDepth 100000
set_option maxHeartbeats 4000000
/-! UL15: a def keeps its promise. -/
namespace UL
open PySem PySem.Spec L2
def startU (N : List Str) (us : List U) : USt := us.map some ++ List.replicate (N.length - us.length) none
/-- but for what nobody holds any more -/
def fin (Q : UH → Prop) (G : UH) : Prop := ∃ G0, Le G0 G ∧ Q G0
theorem fin.of {Q : UH → Prop} {G : UH} (h : Q G) : fin Q G := ⟨G, .refl G, h⟩
def UD (Q : UK) (E : UXn → UH → Prop) : UE := ⟨fun _ G => fin (Q .non) G, fun u G => fin (Q u) G, fun _ _ => False, fun _ _ => False, fun xn _ G => fin (E xn) G⟩
abbrev Xcs := List (Str × List Str)
def xtab (xcs : Xcs) : Tab := ⟨[], [], xcs, false⟩
/-- a def of the text that keeps sp, where an exception is handled, too -/
structure AvH (P : Program) (w : World) (K : PySem.W.Frag) (mg : Str → Option Value) (base : Heap) (xcs : Xcs) (k : Nat) (x : Str) (sp : USp) : Prop where
  ex : ∃ (f : Addr) (fd : FuncData) (ps : List Str), mg x = some (.ref f) ∧ PySem.W.keepIn K (.ref f) = true ∧ Binds K fd ps [] ∧ L2H.FnH P w K mg base (L2N.CX P w) k f fd ps (cSp K mg (xtab xcs) sp)
  db : (x == ("__debug__" : Str)) = false
/-- a def of the text that keeps sp -/
structure Av (P : Program) (w : World) (K : PySem.W.Frag) (mg : Str → Option Value) (base : Heap) (xcs : Xcs) (k : Nat) (x : Str) (sp : USp) : Prop where
  ex : (spl x = none ∧ ∃ (f : Addr) (fd : FuncData) (ps : List Str), mg x = some (.ref f) ∧ PySem.W.keepIn K (.ref f) = true ∧ Binds K fd ps [] ∧ FnOk P w K mg base (L2N.CX P w) k f fd ps (cSp K mg (xtab xcs) sp)) ∨
    (spl x = none ∧ ∃ (j : Nat) (f : Addr) (fd : FuncData) (ps : List Str) (spI : Sp), j + 1 ≤ k ∧ mg x = some (.ref (He.ga K x)) ∧ Mk K (He.ga K x) f ∧ Binds K fd ps [] ∧ FnOk P w K mg base (L2N.CX P w) j f fd ps spI ∧
      ∀ vs H Q E, cSp K mg (xtab xcs) sp vs H Q E → ∀ a dx, H a = none → H dx = none → dx ≠ a → spI (.ref a :: vs) (upd (upd H dx (.own a)) a (.ins (He.ga K x) dx [])) (fun v H2 => v = .non ∧ Q (.ref a) H2) E) ∨
    (∃ c m, spl x = some (c, m) ∧ ∃ (f : Addr) (fd : FuncData) (ps : List Str), Cls K (He.ga K c) ∧ Meth K (He.ga K c) m f ∧ Binds K fd ps [] ∧ FnOk P w K mg base (L2N.CX P w) k f fd ps (cSp K mg (xtab xcs) sp))
  db : (x == ("__debug__" : Str)) = false
/-- a class that is made: what its __init__ promises -/
def mkSp (x : Str) (ns : List Str) (sp : USp) : USp := fun us G Q E => ∀ p, G p = none → sp (.ref p :: us) (up G p (.ins x ns [])) (fun u G2 => u = .non ∧ Q (.ref p) G2) E
theorem mk_conv {K : PySem.W.Frag} {mg : Str → Option Value} {tb : Tab} {x : Str} {ns : List Str} {sp : USp} (c : Cls K (He.ga K x)) (n : ∀ f ∈ ns, NoAttr K (He.ga K x) f) (vs : List V) (H : Hp) (Q : VK) (E : XK) (h : cSp K mg tb (mkSp x ns sp) vs H Q E)
    (a dx : Addr) (ha : H a = none) (hd : H dx = none) (ne : dx ≠ a) : cSp K mg tb sp (.ref a :: vs) (upd (upd H dx (.own a)) a (.ins (He.ga K x) dx [])) (fun v H2 => v = .non ∧ Q (.ref a) H2) E := by
  obtain ⟨us, G, Q0, E0, r, hg, h, k1, k2⟩ := h
  obtain ⟨e, g⟩ := hg.newIns c n ha hd ne
  refine ⟨.ref a :: us, _, _, E0, .cons (.ref a) (RUs.ext e r), g, h a (hg.fresh ha), fun u G' v H' q r' g' e' => ?_, fun xn G' cls d H' q xr g' e' => k2 xn G' cls d H' q xr g' (e.trans e')⟩
  obtain ⟨rfl, q⟩ := q
  cases r'
  exact ⟨rfl, k1 _ _ _ _ q (.ref a) g' (e.trans e')⟩
structure AvX (P : Program) (w : World) (K : PySem.W.Frag) (mg : Str → Option Value) (base : Heap) (k : Nat) (x : Str) (fs : List Str) : Prop where
  ex : ∃ (C fI : Addr) (fd : FuncData) (ps : List Str) (sp : Sp), mg x = some (.ref C) ∧ XcCls K C fs ∧ OexC K C ∧ PySem.W.findIn K (.ref C) "__init__" = some (some (.ref fI)) ∧ PySem.W.typeIn K (.ref fI) = some (.type "function") ∧
    FnOk P w K mg base (L2N.CX P w) k fI fd ps sp ∧ Binds K fd ps [] ∧ fs.length ≤ 900 ∧
    ∀ (a : Addr) (ws : List V) (H : Hp) (Q : VK), ws.length = fs.length → H a = some (exo a C none) → (∀ d, H d = none → d ≠ a → Q .non (upd (upd H d (exd d (fs.zip ws.reverse))) a (exo a C (some d)))) → sp (.ref a :: ws) H Q (fun _ _ _ => False)
  db : (x == ("__debug__" : Str)) = false
/-- the written part, but for the defs -/
structure Wd (P : Program) (w : World) (K : PySem.W.Frag) (mg : Str → Option Value) (base : Heap) (xcs : Xcs) (sub : Nat → Nat → Bool) (kin : Nat → Str → Option Bool) (gls : List (Str × U)) (k : Nat) : Prop where
  gls : ∀ p ∈ gls, ∃ w v, mg p.1 = some w ∧ RelV v w ∧ (∀ H, RU K H p.2 v) ∧ (p.1 == ("__debug__" : Str)) = false
  blt : ∀ x ∈ bltNames, mg x = none
  xc : ∀ p ∈ xcs, AvX P w K mg base k p.1 p.2
  kin : ∀ (i : Nat) (x : Str) (fs : List Str) (C : Addr) (y : Str) (b : Bool), xcs[i]? = some (x, fs) → mg x = some (.ref C) → kin i y = some b → XcIs K C ∧ ∃ cv, ((y == ("__debug__" : Str)) = false ∧ (mg y = some cv ∧ (∃ D, cv = .ref D) ∨ (y = "ValueError" ∧ mg y = none ∧ cv = .type "ValueError"))) ∧ PySem.W.kitOne K (.ref C) cv = some b
  sub : ∀ (i j : Nat) (x y : Str) (fs gs : List Str) (C D : Addr), xcs[i]? = some (x, fs) → xcs[j]? = some (y, gs) → mg x = some (.ref C) → mg y = some (.ref D) → PySem.W.exmOne K (.ref C) (.ref D) = some (sub i j)
def spAt : List (Str × USp) → Nat → USp
  | [], _ => fun _ _ _ _ => False
  | p :: _, 0 => p.2
  | _ :: r, i + 1 => spAt r i
def glAt : List (Str × U) → Nat → U
  | [], _ => .non
  | p :: _, 0 => p.2
  | _ :: r, i + 1 => glAt r i
def gam (cl : List (Str × USp)) (gls : List (Str × U)) (hcl : List (Str × USp) := []) : Gam := ⟨spAt cl, glAt gls, spAt hcl, none⟩
def tabOf (cl : List (Str × USp)) (gls : List (Str × U)) (xcs : Xcs) (sub : Nat → Nat → Bool) (kin : Nat → Str → Option Bool := fun _ _ => none) (hcl : List (Str × USp) := []) (hot : Bool := false) : Tab2 := ⟨⟨cl.map (·.1), gls.map (·.1), xcs, hot⟩, sub, hcl.map (·.1), kin⟩
theorem spAt_ix : ∀ {cl : List (Str × USp)} {i : Nat} {x : Str}, (cl.map (·.1))[i]? = some x → (x, spAt cl i) ∈ cl
  | [], _, _, h => by simp at h
  | p :: _, 0, x, h => by simp at h; subst h; exact List.mem_cons_self
  | p :: r, i + 1, x, h => List.mem_cons_of_mem _ (spAt_ix (cl := r) (i := i) (by simpa using h))
theorem glAt_ix : ∀ {cl : List (Str × U)} {i : Nat} {x : Str}, (cl.map (·.1))[i]? = some x → (x, glAt cl i) ∈ cl
  | [], _, _, h => by simp at h
  | p :: _, 0, x, h => by simp at h; subst h; exact List.mem_cons_self
  | p :: r, i + 1, x, h => List.mem_cons_of_mem _ (glAt_ix (cl := r) (i := i) (by simpa using h))
theorem start_rel {K : PySem.W.Frag} {H : Hp} {N : List Str} {us : List U} {vs : List V} (r : RUs K H us vs) : SR K H (startU N us) (L2.start N vs) := by
  have l := r.length
  refine ⟨by simp [startU, L2.start, l], fun i u h => ?_⟩
  unfold startU at h
  by_cases hi : i < us.length
  · rw [List.getElem?_append_left (by simpa using hi)] at h
    rw [List.getElem?_map] at h
    cases e : us[i]? with
    | none => rw [e] at h; cases h
    | some u' =>
      rw [e] at h
      simp at h
      subst h
      obtain ⟨v, h1, h2⟩ := r.get e
      refine ⟨v, ?_, h2⟩
      unfold L2.start
      rw [List.getElem?_append_left (by simpa [← l] using hi), List.getElem?_map, h1]
      rfl
  · rw [List.getElem?_append_right (by simpa using hi)] at h
    rw [List.getElem?_replicate] at h
    split at h <;> cases h
section
variable {P : Program} {w : World} {K : PySem.W.Frag} {mg : Str → Option Value} {base : Heap} {xcs : Xcs} {sub : Nat → Nat → Bool} {kin : Nat → Str → Option Bool} {gls : List (Str × U)} {cl hcs : List (Str × USp)} {k : Nat}
theorem Av.mono {j : Nat} {x : Str} {sp : USp} (h : Av P w K mg base xcs j x sp) (l : j ≤ k) : Av P w K mg base xcs k x sp := by
  rcases h.ex with ⟨z, f, fd, ps, h1, h2, h3, h4⟩ | ⟨z, j', f, fd, ps, spI, hj, h1, h2, h3, h4, h5⟩ | ⟨c, m, z, f, fd, ps, h1, h2, h3, h4⟩
  · exact ⟨.inl ⟨z, f, fd, ps, h1, h2, h3, h4.mono l⟩, h.db⟩
  · exact ⟨.inr (.inl ⟨z, j', f, fd, ps, spI, Nat.le_trans hj l, h1, h2, h3, h4, h5⟩), h.db⟩
  · exact ⟨.inr (.inr ⟨c, m, z, f, fd, ps, h1, h2, h3, h4.mono l⟩), h.db⟩
theorem AvX.mono {j : Nat} {x : Str} {fs : List Str} (h : AvX P w K mg base j x fs) (l : j ≤ k) : AvX P w K mg base k x fs := by
  obtain ⟨C, fI, fd, ps, sp, h1, h2, h3, h4, h5, h6, h7, h8, h9⟩ := h.ex
  exact ⟨⟨C, fI, fd, ps, sp, h1, h2, h3, h4, h5, h6.mono l, h7, h8, h9⟩, h.db⟩
theorem Wd.mono {j : Nat} (W : Wd P w K mg base xcs sub kin gls j) (l : j ≤ k) : Wd P w K mg base xcs sub kin gls k := ⟨W.gls, W.blt, fun p hp => (W.xc p hp).mono l, W.kin, W.sub⟩
theorem vis_of {sc : Scope} {x : Str} (h : visB sc x = true) : Vis sc x := by
  unfold visB at h
  simp only [Bool.or_eq_true, decide_eq_true_eq] at h
  rcases h with (h | h) | h
  · exact .inl h
  · exact .inr (.inl h)
  · exact .inr (.inr h)
theorem loc_of' {sc : Scope} {x : Str} (h : locB sc x = true) : Loc sc x := by
  unfold locB at h
  simp only [Bool.or_eq_true, decide_eq_true_eq] at h
  exact h
/-- the context of a def's body -/
theorem ctx_def {qual : Str} {scope : Scope} {N : List Str} {f : Addr} {cd : Value} {A : Around} {outer : List Env} {s : Shared} {H : Hp} {E : XK} (W : Wd P w K mg base xcs sub kin gls k) (hcl : ∀ p ∈ cl, Av P w K mg base xcs (k + 1) p.1 p.2) (hh : ∀ p ∈ hcs, AvH P w K mg base xcs (k + 1) p.1 p.2) (kn : scope.kind = .function) (nd : N.Nodup)
    (hr : Room (k + 1) (A.deeper (PyProof.Rows.envOfC qual scope s.heap.objs.size f cd))) : CtxS (cxOf (L2N.CX P w) P w K mg base N qual scope f cd A outer s H E) scope (tabOf cl gls xcs sub kin hcs) (gam cl gls hcs) where
  sco := ⟨fun x h => vis_of h, fun x h => ⟨loc_of' h, .inl rfl⟩, fun x h => of_decide_eq_true (p := scope.names.lookup x = some .globalImplicit) h, fun x h => h⟩
  nd := nd
  calm := fun _ => rfl
  hu := hr.units
  hot := fun z => (by cases z)
  fnh := fun z => (by cases z)
  xc := fun c e => (by cases e)
  hfns := fun _ i x h => by
    obtain ⟨⟨f, fd, ps, h1, h2, h3, h4⟩, db⟩ := hh _ (spAt_ix h)
    exact ⟨⟨k + 1, f, fd, ps, h1, h2, L2H.roomH_of hr, h3, h4⟩, db⟩
  kin := W.kin
  fns := fun _ i x h => by
    obtain ⟨ex, db⟩ := hcl _ (spAt_ix h)
    rcases ex with ⟨z, f, fd, ps, h1, h2, h3, h4⟩ | ⟨z, j', f, fd, ps, spI, hj, h1, h2, h3, h4, h5⟩ | ⟨c, m, z, f, fd, ps, h1, h2, h3, h4⟩
    · exact ⟨.inl ⟨z, k + 1, f, fd, ps, h1, h2, hr, h3, h4⟩, db⟩
    · exact ⟨.inr (.inl ⟨z, j', f, fd, ps, spI, h1, h2, hr.mono hj, h3, h4, h5⟩), db⟩
    · exact ⟨.inr (.inr ⟨c, m, z, k + 1, f, fd, ps, h1, h2, hr, h3, h4⟩), db⟩
  gls := fun i x h => W.gls _ (glAt_ix h)
  blt := W.blt
  scE := rfl
  knd := kn
  own := passes_of rfl
  stk := rfl
  frm := rfl
  xcs := fun _ i x fs h => by
    obtain ⟨⟨C, fI, fd, ps, sp, h1, h2, h3, h4, h5, h6, h7, h8, h9⟩, db⟩ := W.xc (x, fs) (List.mem_of_getElem? h)
    exact ⟨⟨C, fI, fd, k, ps, sp, h1, h2, h3, h4, h5, h6, hr, h7, h8, h9⟩, db⟩
  sub := W.sub
theorem okN {x qual : Str} {st : Stmt} {f : Addr} {fd : FuncData} {N ps : List Str} {k : Nat} {sp : Sp} (F : Fun K x qual st f fd) (S : FnScope N ps (defScope st)) (hl : ∀ vs H Q E, sp vs H Q E → vs.length = ps.length)
    (b : ∀ (cd : Value) (A : Around) (outer : List Env) (s : Shared) (H : Hp) (vs : List V) (Q : VK) (E : XK), Room k (A.deeper (PyProof.Rows.envOfC qual (defScope st) s.heap.objs.size f cd)) → sp vs H Q E → ∃ t, PSs (cxOf (L2N.CX P w) P w K mg base N qual (defScope st) f cd A outer s H E) (defBody st) t ∧
      t { nx := fun _ H' => Q .non H', rt := Q } (L2.start N vs) H) : FnOk P w K mg base (L2N.CX P w) (k + 1) f fd ps sp := by
  obtain ⟨oc, od, kV, doc, pm, an, cdv, ct, osl, rfl, lk, hcd⟩ := F.ex
  exact fn_of lk hcd S hl fun A outer s H vs Q E hr h => b cdv A outer s H vs Q E hr h
/-- the context of a def's body where an exception is handled -/
theorem ctx_defH {qual : Str} {scope : Scope} {N : List Str} {f : Addr} {cd : Value} {A : Around} {outer : List Env} {s : Shared} {H : Hp} {E : XK} {p : Addr × Obj} (W : Wd P w K mg base xcs sub kin gls k) (hcl : ∀ p ∈ cl, AvH P w K mg base xcs (k + 1) p.1 p.2) (kn : scope.kind = .function) (nd : N.Nodup) (h1 : L2H.Hot1 A p)
    (hr : L2H.RoomH (k + 1) (A.deeper (PyProof.Rows.envOfC qual scope s.heap.objs.size f cd))) : CtxS (L2H.cxH (L2N.CX P w) P w K mg base N qual scope f cd A outer s H E p) scope (tabOf cl gls xcs sub kin [] true) (gam cl gls) where
  sco := ⟨fun x h => vis_of h, fun x h => ⟨loc_of' h, .inl rfl⟩, fun x h => of_decide_eq_true (p := scope.names.lookup x = some .globalImplicit) h, fun x h => h⟩
  nd := nd
  calm := fun z => (by cases z)
  hu := (by have := hr.un; show (A.deeper _).units + 64 < cLine; omega)
  hot := fun _ => ⟨p, h1, List.mem_cons_self⟩
  fns := fun z => (by cases z)
  fnh := fun _ i x h => by
    obtain ⟨⟨f, fd, ps, h1, h2, h3, h4⟩, db⟩ := hcl _ (spAt_ix h)
    exact ⟨⟨k + 1, f, fd, ps, h1, h2, hr, h3, h4⟩, db⟩
  xc := fun c e => (by cases e)
  hfns := fun z => (by cases z)
  kin := W.kin
  gls := fun i x h => W.gls _ (glAt_ix h)
  blt := W.blt
  scE := rfl
  knd := kn
  own := passes_of rfl
  stk := rfl
  frm := rfl
  xcs := fun z => (by cases z)
  sub := W.sub
theorem def_okH {x qual : Str} {st : Stmt} {f : Addr} {fd : FuncData} {N ps : List Str} {sp : USp} {body : Sms} (W : Wd P w K mg base xcs sub kin gls k) (hcl : ∀ p ∈ cl, AvH P w K mg base xcs (k + 1) p.1 p.2) (F : Fun K x qual st f fd) (S : FnScope N ps (defScope st))
    (hc : chkSs N (defScope st) (tabOf cl gls xcs sub kin [] true) false body (defBody st) = true) (hlen : ∀ us G Q E, sp us G Q E → us.length = ps.length)
    (hb : ∀ us G Q E, sp us G Q E → trSs (tabOf cl gls xcs sub kin [] true) (gam cl gls) body (UD Q E) (startU N us) G) : L2H.FnH P w K mg base (L2N.CX P w) (k + 2) f fd ps (cSp K mg (xtab xcs) sp) := by
  obtain ⟨oc, od, kV, doc, pm, an, cdv, ct, osl, rfl, lk, hcd⟩ := F.ex
  refine L2H.fn_ofH lk hcd S (fun vs H Q E h => ?_) fun A outer s H vs Q E p hot hr h => ?_
  · obtain ⟨us, G, Q0, E0, r, hg, h, _⟩ := h
    rw [← r.length]
    exact hlen us G Q0 E0 h
  · obtain ⟨us, G, Q0, E0, r, hg, h, k1, k2⟩ := h
    have C := ctx_defH (qual := qual) (scope := defScope st) (N := N) (f := f) (cd := cdv) (A := A) (outer := outer) (s := s) (H := H) (E := E) W hcl S.kind S.nd hot hr
    refine ⟨_, sSs body C _ hc, H, UD Q0 E0, startU N us, G, .inr rfl, ?_, start_rel r, hg, .refl, hb us G Q0 E0 h, ⟨?_, ?_, ?_, ?_⟩⟩
    · refine takes_ext (L2N.takes_of (E := E) rfl rfl rfl rfl) fun cls d σ' H' e l wv => ?_
      obtain ⟨xn, s1, G1, hs1, hg1, xr, G0, le, w0⟩ := wv
      exact k2 xn G0 cls d H' w0 (xr.le le) (hg1.le le) e
    · rintro s1 G1 σ1 H1 ⟨G0, le, q⟩ hs1 hg1 e1
      exact k1 .non G0 .non H1 q .non (hg1.le le) e1
    · rintro u G1 v H1 ⟨G0, le, q⟩ ru hg1 e1
      exact k1 u G0 v H1 q ru (hg1.le le) e1
    · intro _ _ _ _ z
      exact z.elim
    · intro _ _ _ _ z
      exact z.elim
theorem def_avH {x : Str} {st : Stmt} {f : Addr} {fd : FuncData} {N ps : List Str} {sp : USp} {body : Sms} (W : Wd P w K mg base xcs sub kin gls k) (hcl : ∀ p ∈ cl, AvH P w K mg base xcs (k + 1) p.1 p.2) (F : Fun K x x st f fd) (hm : mg x = some (.ref f)) (hb' : Binds K fd ps []) (db : (x == ("__debug__" : Str)) = false) (S : FnScope N ps (defScope st))
    (hc : chkSs N (defScope st) (tabOf cl gls xcs sub kin [] true) false body (defBody st) = true) (hlen : ∀ us G Q E, sp us G Q E → us.length = ps.length)
    (hb : ∀ us G Q E, sp us G Q E → trSs (tabOf cl gls xcs sub kin [] true) (gam cl gls) body (UD Q E) (startU N us) G) : AvH P w K mg base xcs (k + 2) x sp :=
  ⟨⟨f, fd, ps, hm, F.kp, hb', def_okH W hcl F S hc hlen hb⟩, db⟩
theorem AvH.mono {j : Nat} {x : Str} {sp : USp} (h : AvH P w K mg base xcs j x sp) (l : j ≤ k) : AvH P w K mg base xcs k x sp := by
  obtain ⟨⟨f, fd, ps, h1, h2, h3, h4⟩, db⟩ := h
  exact ⟨⟨f, fd, ps, h1, h2, h3, ⟨h4.len, fun A outer s H args us vs Q E p hr hot hp e0 hb r hsp => h4.run A outer s H args us vs Q E p (hr.mono l) hot hp e0 hb r hsp⟩⟩, db⟩
theorem def_ok {x qual : Str} {st : Stmt} {f : Addr} {fd : FuncData} {N ps : List Str} {sp : USp} {body : Sms} (W : Wd P w K mg base xcs sub kin gls k) (hcl : ∀ p ∈ cl, Av P w K mg base xcs (k + 1) p.1 p.2) (hh : ∀ p ∈ hcs, AvH P w K mg base xcs (k + 1) p.1 p.2) (F : Fun K x qual st f fd) (S : FnScope N ps (defScope st))
    (hc : chkSs N (defScope st) (tabOf cl gls xcs sub kin hcs) false body (defBody st) = true) (hlen : ∀ us G Q E, sp us G Q E → us.length = ps.length)
    (hb : ∀ us G Q E, sp us G Q E → trSs (tabOf cl gls xcs sub kin hcs) (gam cl gls hcs) body (UD Q E) (startU N us) G) : FnOk P w K mg base (L2N.CX P w) (k + 2) f fd ps (cSp K mg (xtab xcs) sp) := by
  refine okN F S (fun vs H Q E h => ?_) (fun cdv A outer s H vs Q E hr h => ?_)
  · obtain ⟨us, G, Q0, E0, r, hg, h, _⟩ := h
    rw [← r.length]
    exact hlen us G Q0 E0 h
  · obtain ⟨us, G, Q0, E0, r, hg, h, k1, k2⟩ := h
    have C := ctx_def (qual := qual) (scope := defScope st) (N := N) (f := f) (cd := cdv) (A := A) (outer := outer) (s := s) (H := H) (E := E) W hcl hh S.kind S.nd hr
    refine ⟨_, sSs body C _ hc, H, UD Q0 E0, startU N us, G, .inr rfl, ?_, start_rel r, hg, .refl, hb us G Q0 E0 h, ⟨?_, ?_, ?_, ?_⟩⟩
    · refine takes_ext (L2N.takes_of (E := E) rfl rfl rfl rfl) fun cls d σ' H' e l wv => ?_
      obtain ⟨xn, s1, G1, hs1, hg1, xr, G0, le, w0⟩ := wv
      exact k2 xn G0 cls d H' w0 (xr.le le) (hg1.le le) e
    · rintro s1 G1 σ1 H1 ⟨G0, le, q⟩ hs1 hg1 e1
      exact k1 .non G0 .non H1 q .non (hg1.le le) e1
    · rintro u G1 v H1 ⟨G0, le, q⟩ ru hg1 e1
      exact k1 u G0 v H1 q ru (hg1.le le) e1
    · intro _ _ _ _ z
      exact z.elim
    · intro _ _ _ _ z
      exact z.elim
theorem def_av {x : Str} {st : Stmt} {f : Addr} {fd : FuncData} {N ps : List Str} {sp : USp} {body : Sms} (W : Wd P w K mg base xcs sub kin gls k) (hcl : ∀ p ∈ cl, Av P w K mg base xcs (k + 1) p.1 p.2) (hh : ∀ p ∈ hcs, AvH P w K mg base xcs (k + 1) p.1 p.2) (F : Fun K x x st f fd) (hm : mg x = some (.ref f)) (hb' : Binds K fd ps []) (db : (x == ("__debug__" : Str)) = false) (nz : spl x = none) (S : FnScope N ps (defScope st))
    (hc : chkSs N (defScope st) (tabOf cl gls xcs sub kin hcs) false body (defBody st) = true) (hlen : ∀ us G Q E, sp us G Q E → us.length = ps.length)
    (hb : ∀ us G Q E, sp us G Q E → trSs (tabOf cl gls xcs sub kin hcs) (gam cl gls hcs) body (UD Q E) (startU N us) G) : Av P w K mg base xcs (k + 2) x sp :=
  ⟨.inl ⟨nz, f, fd, ps, hm, F.kp, hb', def_ok W hcl hh F S hc hlen hb⟩, db⟩
/-- a def that is not asked here -/
theorem av_bot {x : Str} {f : Addr} {fd : FuncData} {ps : List Str} (hm : mg x = some (.ref f)) (kp : PySem.W.keepIn K (.ref f) = true) (hb' : Binds K fd ps []) (db : (x == ("__debug__" : Str)) = false) (nz : spl x = none) : Av P w K mg base xcs k x (fun _ _ _ _ => False) :=
  ⟨.inl ⟨nz, f, fd, ps, hm, kp, hb', ⟨fun vs H Q E h => by obtain ⟨_, _, _, _, _, _, h, _⟩ := h; exact h.elim, fun A outer s H args us vs Q E hr e0 hb r h => by obtain ⟨_, _, _, _, _, _, h, _⟩ := h; exact h.elim⟩⟩, db⟩
theorem avh_bot {x : Str} {f : Addr} {fd : FuncData} {ps : List Str} (hm : mg x = some (.ref f)) (kp : PySem.W.keepIn K (.ref f) = true) (hb' : Binds K fd ps []) (db : (x == ("__debug__" : Str)) = false) : AvH P w K mg base xcs k x (fun _ _ _ _ => False) :=
  ⟨⟨f, fd, ps, hm, kp, hb', ⟨fun vs H Q E h => by obtain ⟨_, _, _, _, _, _, h, _⟩ := h; exact h.elim, fun A outer s H args us vs Q E p hr hot hp e0 hb r h => by obtain ⟨_, _, _, _, _, _, h, _⟩ := h; exact h.elim⟩⟩, db⟩
/-- a method -/
theorem meth_av {x c m qual : Str} {st : Stmt} {f : Addr} {fd : FuncData} {N ps : List Str} {sp : USp} {body : Sms} (W : Wd P w K mg base xcs sub kin gls k) (hcl : ∀ p ∈ cl, Av P w K mg base xcs (k + 1) p.1 p.2) (hh : ∀ p ∈ hcs, AvH P w K mg base xcs (k + 1) p.1 p.2) (F : Fun K m qual st f fd) (hz : spl x = some (c, m)) (cc : Cls K (He.ga K c)) (me : Meth K (He.ga K c) m f) (hb' : Binds K fd ps []) (db : (x == ("__debug__" : Str)) = false) (S : FnScope N ps (defScope st))
    (hc : chkSs N (defScope st) (tabOf cl gls xcs sub kin hcs) false body (defBody st) = true) (hlen : ∀ us G Q E, sp us G Q E → us.length = ps.length)
    (hb : ∀ us G Q E, sp us G Q E → trSs (tabOf cl gls xcs sub kin hcs) (gam cl gls hcs) body (UD Q E) (startU N us) G) : Av P w K mg base xcs (k + 2) x sp :=
  ⟨.inr (.inr ⟨c, m, hz, f, fd, ps, cc, me, hb', def_ok W hcl hh F S hc hlen hb⟩), db⟩
/-- a class by its __init__ -/
theorem make_av {x qual : Str} {ns : List Str} {st : Stmt} {f : Addr} {fd : FuncData} {N ps : List Str} {sp : USp} {body : Sms} (W : Wd P w K mg base xcs sub kin gls k) (hcl : ∀ p ∈ cl, Av P w K mg base xcs (k + 1) p.1 p.2) (hh : ∀ p ∈ hcs, AvH P w K mg base xcs (k + 1) p.1 p.2) (F : Fun K "__init__" qual st f fd) (hm : mg x = some (.ref (He.ga K x))) (M : Mk K (He.ga K x) f) (nz : spl x = none) (cc : Cls K (He.ga K x)) (n : ∀ f ∈ ns, NoAttr K (He.ga K x) f) (hb' : Binds K fd ps []) (db : (x == ("__debug__" : Str)) = false) (S : FnScope N ps (defScope st))
    (hc : chkSs N (defScope st) (tabOf cl gls xcs sub kin hcs) false body (defBody st) = true) (hlen : ∀ us G Q E, sp us G Q E → us.length = ps.length)
    (hb : ∀ us G Q E, sp us G Q E → trSs (tabOf cl gls xcs sub kin hcs) (gam cl gls hcs) body (UD Q E) (startU N us) G) : Av P w K mg base xcs (k + 3) x (mkSp x ns sp) :=
  ⟨.inr (.inl ⟨nz, k + 2, f, fd, ps, cSp K mg (xtab xcs) sp, Nat.le_refl _, hm, M, hb', def_ok W hcl hh F S hc hlen hb, fun vs H Q E h a dx ha hd ne => mk_conv cc n vs H Q E h a dx ha hd ne⟩), db⟩
end
/-! ### an exception's own __init__ -/
section
variable {P : Program} {w : World} {K : PySem.W.Frag} {mg : Str → Option Value} {base : Heap}
def init2 (p1 p2 p3 p4 q1 q2 q3 q4 : Pos) (f g x y : Str) : List Stmt := [.Assign [.Attribute (.Name "self" p1) f p2] (.Name x p3) p4, .Assign [.Attribute (.Name "self" q1) g q2] (.Name y q3) q4]
def init1 (p1 p2 p3 p4 : Pos) (f x : Str) : List Stmt := [.Assign [.Attribute (.Name "self" p1) f p2] (.Name x p3) p4]
def spI2 (C : Addr) (f g : Str) : Sp := fun vs H Q _ => ∃ a x y, vs = [.ref a, x, y] ∧ H a = some (exo a C none) ∧ ∀ d, H d = none → d ≠ a → Q .non (upd (upd H d (exd d [(g, y), (f, x)])) a (exo a C (some d)))
def spI1 (C : Addr) (f : Str) : Sp := fun vs H Q _ => ∃ a x, vs = [.ref a, x] ∧ H a = some (exo a C none) ∧ ∀ d, H d = none → d ≠ a → Q .non (upd (upd H d (exd d [(f, x)])) a (exo a C (some d)))
theorem two_upd {H : Hp} {a d : Addr} {x y z : HO} (h : d ≠ a) : upd (upd (upd H d x) a y) d z = upd (upd H d z) a y := by
  funext b
  by_cases h1 : b = d
  · subst h1; rw [upd_same, upd_ne h, upd_same]
  · by_cases h2 : b = a
    · subst h2; rw [upd_ne h1, upd_same, upd_same]
    · rw [upd_ne h1, upd_ne h2, upd_ne h1, upd_ne h2, upd_ne h1]
theorem init2_ok {qual x y f g : Str} {st : Stmt} {fI C : Addr} {fd : FuncData} {k : Nat} {p1 p2 p3 p4 q1 q2 q3 q4 : Pos} (F : Fun K "__init__" qual st fI fd) (S : FnScope ["self", x, y] ["self", x, y] (defScope st)) (hb : defBody st = init2 p1 p2 p3 p4 q1 q2 q3 q4 f g x y)
    (T : OexC K C) (nf : PySem.W.findIn K (.ref C) f = some none) (ng : PySem.W.findIn K (.ref C) g = some none) (v0 : (defScope st).names.lookup ("self" : Str) = some .local) (v1 : (defScope st).names.lookup x = some .local) (v2 : (defScope st).names.lookup y = some .local)
    (d1 : (x == ("__debug__" : Str)) = false) (d2 : (y == ("__debug__" : Str)) = false) (c1 : (x == ("__classdict__" : Str)) = false) (c2 : (y == ("__classdict__" : Str)) = false) : FnOk P w K mg base (L2N.CX P w) (k + 1) fI fd ["self", x, y] (spI2 C f g) := by
  refine okN F S (fun vs H Q E h => ?_) (fun cdv A outer s H vs Q E hr h => ⟨tSeq (tOst K f (tVar 0) (tVar 1)) (tOst K g (tVar 0) (tVar 2)), ?_, ?_⟩)
  · obtain ⟨a, u, v, rfl, _⟩ := h
    rfl
  · rw [hb]
    exact pss_cons (ps_ost (pe_var (i := 0) rfl (.inl v0) (by decide) (by decide)) (pe_var (i := 1) rfl (.inl v1) d1 c1)) (pss_one (ps_ost (pe_var (i := 0) rfl (.inl v0) (by decide) (by decide)) (pe_var (i := 2) rfl (.inl v2) d2 c2)))
  · obtain ⟨a, u, v, rfl, ha, kq⟩ := h
    refine ⟨u, rfl, .ref a, rfl, a, C, rfl, T, nf, .inl ⟨ha, fun dx hd hne => ⟨v, rfl, .ref a, rfl, a, C, rfl, T, ng, .inr ⟨dx, [(f, u)], upd_same, (upd_ne hne).trans upd_same, Nat.le_of_ble_eq_true rfl, ?_⟩⟩⟩⟩
    rw [two_upd hne]
    exact kq dx hd hne
theorem init1_ok {qual x f : Str} {st : Stmt} {fI C : Addr} {fd : FuncData} {k : Nat} {p1 p2 p3 p4 : Pos} (F : Fun K "__init__" qual st fI fd) (S : FnScope ["self", x] ["self", x] (defScope st)) (hb : defBody st = init1 p1 p2 p3 p4 f x)
    (T : OexC K C) (nf : PySem.W.findIn K (.ref C) f = some none) (v0 : (defScope st).names.lookup ("self" : Str) = some .local) (v1 : (defScope st).names.lookup x = some .local)
    (d1 : (x == ("__debug__" : Str)) = false) (c1 : (x == ("__classdict__" : Str)) = false) : FnOk P w K mg base (L2N.CX P w) (k + 1) fI fd ["self", x] (spI1 C f) := by
  refine okN F S (fun vs H Q E h => ?_) (fun cdv A outer s H vs Q E hr h => ⟨tOst K f (tVar 0) (tVar 1), ?_, ?_⟩)
  · obtain ⟨a, u, rfl, _⟩ := h
    rfl
  · rw [hb]
    exact pss_one (ps_ost (pe_var (i := 0) rfl (.inl v0) (by decide) (by decide)) (pe_var (i := 1) rfl (.inl v1) d1 c1))
  · obtain ⟨a, u, rfl, ha, kq⟩ := h
    exact ⟨u, rfl, .ref a, rfl, a, C, rfl, T, nf, .inl ⟨ha, fun dx hd hne => kq dx hd hne⟩⟩
theorem avx2 {cn qual x y f g : Str} {st : Stmt} {fI C : Addr} {fd : FuncData} {k : Nat} {p1 p2 p3 p4 q1 q2 q3 q4 : Pos} (hm : mg cn = some (.ref C)) (db : (cn == ("__debug__" : Str)) = false) (X : XcCls K C [g, f]) (T : OexC K C) (iC : PySem.W.findIn K (.ref C) "__init__" = some (some (.ref fI))) (tI : PySem.W.typeIn K (.ref fI) = some (.type "function"))
    (F : Fun K "__init__" qual st fI fd) (bd : Binds K fd ["self", x, y] []) (S : FnScope ["self", x, y] ["self", x, y] (defScope st)) (hb : defBody st = init2 p1 p2 p3 p4 q1 q2 q3 q4 f g x y)
    (v0 : (defScope st).names.lookup ("self" : Str) = some .local) (v1 : (defScope st).names.lookup x = some .local) (v2 : (defScope st).names.lookup y = some .local)
    (d1 : (x == ("__debug__" : Str)) = false) (d2 : (y == ("__debug__" : Str)) = false) (c1 : (x == ("__classdict__" : Str)) = false) (c2 : (y == ("__classdict__" : Str)) = false) : AvX P w K mg base (k + 1) cn [g, f] :=
  ⟨⟨C, fI, fd, ["self", x, y], spI2 C f g, hm, X, T, iC, tI, init2_ok F S hb T (X.noN f (by simp)) (X.noN g (by simp)) v0 v1 v2 d1 d2 c1 c2, bd, Nat.le_of_ble_eq_true rfl, fun a ws H Q hl ha hk => by
    match ws, hl with
    | [u, v], _ => exact ⟨a, u, v, rfl, ha, hk⟩⟩, db⟩
theorem avx1 {cn qual x f : Str} {st : Stmt} {fI C : Addr} {fd : FuncData} {k : Nat} {p1 p2 p3 p4 : Pos} (hm : mg cn = some (.ref C)) (db : (cn == ("__debug__" : Str)) = false) (X : XcCls K C [f]) (T : OexC K C) (iC : PySem.W.findIn K (.ref C) "__init__" = some (some (.ref fI))) (tI : PySem.W.typeIn K (.ref fI) = some (.type "function"))
    (F : Fun K "__init__" qual st fI fd) (bd : Binds K fd ["self", x] []) (S : FnScope ["self", x] ["self", x] (defScope st)) (hb : defBody st = init1 p1 p2 p3 p4 f x)
    (v0 : (defScope st).names.lookup ("self" : Str) = some .local) (v1 : (defScope st).names.lookup x = some .local)
    (d1 : (x == ("__debug__" : Str)) = false) (c1 : (x == ("__classdict__" : Str)) = false) : AvX P w K mg base (k + 1) cn [f] :=
  ⟨⟨C, fI, fd, ["self", x], spI1 C f, hm, X, T, iC, tI, init1_ok F S hb T (X.noN f (by simp)) v0 v1 d1 c1, bd, Nat.le_of_ble_eq_true rfl, fun a ws H Q hl ha hk => by
    match ws, hl with
    | [u], _ => exact ⟨a, u, rfl, ha, hk⟩⟩, db⟩
end
end UL
set_option Elab.async false
set_option linter.all false
set_option autoImplicit false
set_option maxRecDepth 100000
set_option maxHeartbeats 4000000
/-! UL16: the head's facts; the end of a law. -/
namespace UL
open PySem PySem.Spec L2
section
variable {P : Program} {w : World} {K : PySem.W.Frag} {mg : Str → Option Value} {base : Heap} {xcs : Xcs} {sub : Nat → Nat → Bool} {kin : Nat → Str → Option Bool} {gls : List (Str × U)} {cl : List (Str × USp)} {k : Nat}
theorem funD_fun {x qual : Str} {st : Stmt} {f : Addr} {fd : FuncData} (F : FunD K x qual (defArgs st) (defBody st) (defScope st) [] [] f fd) : Fun K x qual st f fd := by
  obtain ⟨oc, od, dV, kV, doc, pm, an, cdv, ct, osl, rfl, lk, hcd, hD, hK⟩ := F.ex
  have e : dV = .none := by
    rcases hD with ⟨_, e⟩ | ⟨e, _⟩
    · exact e
    · exact absurd rfl e
  subst e
  exact ⟨⟨oc, od, kV, doc, pm, an, cdv, ct, osl, rfl, lk, hcd⟩, F.kp⟩
/-! ### an exception class by its facts -/
def oexB (K : PySem.W.Frag) (C : Addr) : Bool := match K.lookup C with
  | some ⟨.type "type", _, .cls cd, sl⟩ => (match cd.mro, sl.toList with
    | .ref C' :: bm, [_, _, _, _, some (.builtin n), _] => C' == C && n == "ValueError.__new__" && !cd.hasDel && cd.hasDict && PySem.HandSPX.refsVE bm
    | _, _ => false)
  | _ => false
theorem oex_cls {C : Addr} (q : oexB K C = true) : ∃ nm q N bs bm sn sub ab col dd k0 k1 k2 k3 k5, K.lookup C = some (excClassObj nm q C N bs bm true sn sub ab col dd k0 k1 k2 k3 k5 "ValueError.__new__") ∧ PySem.HandSPX.refsVE bm = true := by
  unfold oexB at q
  split at q
  · rename_i dd cd sl ho
    split at q
    · rename_i C' bm k0 k1 k2 k3 n k5 hm hs
      simp only [Bool.and_eq_true, beq_iff_eq, Bool.not_eq_true'] at q
      obtain ⟨⟨⟨⟨rfl, rfl⟩, hdel⟩, hdict⟩, hv⟩ := q
      obtain ⟨nm, bs, mro, ns, qn, hd, sn, sub, ab, col, del⟩ := cd
      dsimp only at hm hdel hdict
      subst hm hdel hdict
      have hsl : sl = #[k0, k1, k2, k3, some (.builtin "ValueError.__new__"), k5] := by
        obtain ⟨l⟩ := sl
        simp only at hs
        rw [hs]
      subst hsl
      exact ⟨nm, qn, ns, bs, bm, sn, sub, ab, col, dd, k0, k1, k2, k3, k5, ho, hv⟩
    · cases q
  · cases q
def xcB (K : PySem.W.Frag) (p : Str × List Str) : Bool :=
  oexB K (He.ga K p.1) && (He.eqO (PySem.W.findIn K (.ref (He.ga K p.1)) "__setattr__") (some (some (.builtin "object.__setattr__"))) && (He.eqO (PySem.W.findIn K (.ref (He.ga K p.1)) "__getattribute__") (some (some (.builtin "BaseException.__getattribute__"))) &&
    (He.eqO (PySem.W.findIn K (.ref (He.ga K p.1)) "__getattr__") (some none) && (decide (PySem.W.subIn K (.ref (He.ga K p.1)) (.type "BaseException") = some true) && (decide (PySem.W.typeIn K (.ref (He.ga K p.1)) = some (.type "type")) &&
      (PySem.W.keepIn K (.ref (He.ga K p.1)) && (PySem.W.hasDictIn K (He.ga K p.1) && (p.2.all (fun f => He.eqO (PySem.W.findIn K (.ref (He.ga K p.1)) f) (some none)) && (He.eqO (PySem.W.findIn K (.ref (He.ga K p.1)) "__init__") (some (some (.ref (He.ma K (He.ga K p.1) "__init__")))) &&
        decide (PySem.W.typeIn K (.ref (He.ma K (He.ga K p.1) "__init__")) = some (.type "function")))))))))))
structure XcF (K : PySem.W.Frag) (x : Str) (fs : List Str) : Prop where
  c : XcCls K (He.ga K x) fs
  o : OexC K (He.ga K x)
  i : PySem.W.findIn K (.ref (He.ga K x)) "__init__" = some (some (.ref (He.ma K (He.ga K x) "__init__")))
  t : PySem.W.typeIn K (.ref (He.ma K (He.ga K x) "__init__")) = some (.type "function")
theorem xc_of {x : Str} {fs : List Str} (h : xcB K (x, fs) = true) : XcF K x fs := by
  unfold xcB at h
  simp only [Bool.and_eq_true, decide_eq_true_eq] at h
  obtain ⟨h1, h2, h3, h4, h5, h6, h7, h8, h9, h10, h11⟩ := h
  exact ⟨⟨He.eqO_ok h3, He.eqO_ok h4, h5, h8, fun f hf => He.eqO_ok (List.all_eq_true.mp h9 f hf)⟩, ⟨oex_cls h1, He.eqO_ok h2, h5, h6, h7⟩, He.eqO_ok h10, h11⟩
end
/-! ### isinstance(e, class) -/
abbrev Kins := List ((Str × Str) × Bool)
def kinOf (xcs : Xcs) (ks : Kins) : Nat → Str → Option Bool := fun i y => (xcs[i]?).bind fun p => ks.lookup (p.1, y)
def cvOf (K : PySem.W.Frag) (y : Str) : Value := if y = "ValueError" then .type "ValueError" else .ref (He.ga K y)
def xiB (K : PySem.W.Frag) (q : (Str × Str) × Bool) : Bool :=
  He.eqO (PySem.W.findIn K (.ref (He.ga K q.1.1)) "__class__") (some (some (.builtin "object.__class__"))) && (He.eqO (PySem.W.specialIn K (.builtin "object.__class__") "__get__") (some (some (.builtin "getset_descriptor.__get__"))) && (decide (PySem.W.takesIn K (.builtin "object.__class__") = some true) &&
    (decide (PySem.W.mroIn K (He.ga K q.1.1) (.type "object") = some true) && decide (PySem.W.kitOne K (.ref (He.ga K q.1.1)) (cvOf K q.1.2) = some q.2))))
theorem look_mem {ks : Kins} {k : Str × Str} {b : Bool} (h : ks.lookup k = some b) : (k, b) ∈ ks := by
  induction ks with
  | nil => cases h
  | cons p r ih =>
    obtain ⟨q, c⟩ := p
    rw [List.lookup_cons] at h
    split at h
    · rename_i e
      have e := eq_of_beq e
      cases h
      subst e
      exact List.mem_cons_self
    · exact List.mem_cons_of_mem _ (ih h)
theorem xi_of {K : PySem.W.Frag} {mg : Str → Option Value} {xcs : Xcs} {ks : Kins} (h : ks.all (xiB K) = true) (hx : ∀ q ∈ ks, mg q.1.1 = some (.ref (He.ga K q.1.1)) ∧ (q.1.2 == ("__debug__" : Str)) = false ∧ ((q.1.2 = "ValueError" ∧ mg q.1.2 = none) ∨ (q.1.2 ≠ "ValueError" ∧ mg q.1.2 = some (.ref (He.ga K q.1.2)))))
    (i : Nat) (x : Str) (fs : List Str) (C : Addr) (y : Str) (b : Bool) (h1 : xcs[i]? = some (x, fs)) (h2 : mg x = some (.ref C)) (h3 : kinOf xcs ks i y = some b) : XcIs K C ∧ ∃ cv, ((y == ("__debug__" : Str)) = false ∧ (mg y = some cv ∧ (∃ D, cv = .ref D) ∨ (y = "ValueError" ∧ mg y = none ∧ cv = .type "ValueError"))) ∧ PySem.W.kitOne K (.ref C) cv = some b := by
  unfold kinOf at h3
  rw [h1, Option.bind_some] at h3
  have hm := look_mem h3
  obtain ⟨g1, db, g2⟩ := hx _ hm
  have hb := List.all_eq_true.mp h _ hm
  rw [h2] at g1
  cases g1
  unfold xiB at hb
  simp only [Bool.and_eq_true, decide_eq_true_eq] at hb
  obtain ⟨b1, b2, b3, b4, b5⟩ := hb
  refine ⟨⟨He.eqO_ok b1, He.eqO_ok b2, b3, b4⟩, cvOf K y, ⟨db, ?_⟩, b5⟩
  unfold cvOf
  rcases g2 with ⟨e, n⟩ | ⟨e, n⟩
  · exact .inr ⟨e, n, if_pos e⟩
  · exact .inl ⟨by rw [if_neg e]; exact n, ⟨_, if_neg e⟩⟩
/-! ### the hook -/
abbrev AlU : Type := He.AlD × Bool
def obsU (n : Nat) (fa : List He.Fa) (fn : List He.DefD) (ex : PySem.W.Frag → Bool) (g : Addr → Option Obj) : AlU := (He.obsDG n fa fn g, ex (He.frG g (He.asD g n)))
def hookU (n : Nat) (fa : List He.Fa) (fn : List He.DefD) (ex : PySem.W.Frag → Bool) : PySem.W.Hook where
  α := AlU
  obs := fun s => obsU n fa fn ex s.heap.get?
  val := fun _ => (He.valD fn, true)
  says := fun _ h => ∃ K : PySem.W.Frag, K.In h ∧ He.SaysD fa fn K ∧ ex K = true
  of := fun _ s e => ⟨_, He.frG_in, congrArg (fun z : AlU => z.1) e, congrArg (fun z : AlU => z.2) e⟩
  keeps := fun _ _ _ ⟨K, hK, c⟩ k => ⟨K, PySem.W.Frag.In.keeps hK k, c⟩
theorem obsU_eq {n : Nat} {fa : List He.Fa} {fn : List He.DefD} {ex : PySem.W.Frag → Bool} {g : Addr → Option Obj} {s : Shared} (h : ∀ a, g a = s.heap.get? a) : obsU n fa fn ex g = (hookU n fa fn ex).obs s := by
  have e : g = s.heap.get? := funext h
  rw [e] <;> rfl
/-! ### the law's end -/
theorem sp_law {K : PySem.W.Frag} {mg : Str → Option Value} {xcs : Xcs} {sp : USp} {H : Hp} {a : Addr} {ns : List Int} (hO : Only H) (hS : SqL K H a (ns.map V.int)) (h : sp [.rol (ns.map U.int)] (fun _ => none) (fun u _ => u = .bl true) (fun _ _ => False)) :
    cSp K mg (xtab xcs) sp [.ref a] H (fun v _ => v = .bl true) (fun _ _ _ => False) := by
  have fz : Frz K H a (ns.map V.int) := by
    rcases hS with (h1 | h1) | h1
    · rcases hO a with e | ⟨o, xs, e⟩
      · rw [e] at h1; cases h1
      · rw [e] at h1; cases h1
    · exact .inl h1
    · exact .inr h1
  refine ⟨_, fun _ => none, _, _, .cons (.rol fz (RUs.of_ints ns)) .nil, (fun a o e => by cases e), h, (fun u G' v H' q r _ _ => ?_), (fun _ _ _ _ _ z => False.elim z)⟩
  subst q
  cases r
  rfl
end UL
set_option Elab.async false
set_option linter.all false
set_option autoImplicit false
set_option maxRecDepth 100000
set_option maxHeartbeats 4000000
/-! UL17: words for the proofs over the layer. -/
namespace UL
open PySem PySem.Spec L2
theorem line_ge : 16777216 ≤ sizeLine := by rw [sizeLine_eq]; exact Nat.le_refl _
theorem uC_s {u : U} {s : USt} {G : UH} {Q : UK} : uC u s G Q = Q u G := propext ⟨id, id⟩
theorem uVar_s {i : Nat} {s : USt} {G : UH} {Q : UK} : uVar i s G Q = (match getS s i with
  | some u => Q u G
  | none => False) := propext ⟨id, id⟩
theorem uBin_s {r : UOp} {ta tb : UT} {s : USt} {G : UH} {Q : UK} : uBin r ta tb s G Q = ta s G fun x G1 => tb s G1 fun y G2 => r x y G2 Q := propext ⟨id, id⟩
theorem uUn_s {r : U → UH → UK → Prop} {ta : UT} {s : USt} {G : UH} {Q : UK} : uUn r ta s G Q = ta s G fun x G1 => r x G1 Q := propext ⟨id, id⟩
theorem mulL {i j : Int} (h : -(2 ^ 64) < i) (h' : i < 2 ^ 64) : MulOk i j := .inl (.inl ⟨h, h'⟩)
theorem mulR {i j : Int} (h : -(2 ^ 64) < j) (h' : j < 2 ^ 64) : MulOk i j := .inl (.inr ⟨h, h'⟩)
theorem divS {i j : Int} (h : 0 < j) (h' : j < 1073741824) : DivOk i j := .inl ⟨h, h'⟩
def isI : U → Bool
  | .int _ => true
  | _ => false
def tyS (G : UH) (u : U) : Prop := (tyN G u).isSome = true
/-- what stays: all but what stands at p and g -/
def Fr (p g : Addr) (G G' : UH) : Prop := ∀ a o, a ≠ p → a ≠ g → G a = some o → G' a = some o
theorem Fr.refl (p g : Addr) (G : UH) : Fr p g G G := fun _ _ _ _ h => h
theorem Fr.trans {p g : Addr} {G1 G2 G3 : UH} (a : Fr p g G1 G2) (b : Fr p g G2 G3) : Fr p g G1 G3 := fun c o h1 h2 h => b c o h1 h2 (a c o h1 h2 h)
theorem Fr.of_le {p g : Addr} {G G' : UH} (h : Le G G') : Fr p g G G' := fun a o _ _ e => h a o e
theorem Le.up {G G' : UH} {p : Addr} {o : UO} (h : Le G G') : Le (up G p o) (up G' p o) := fun a q e => by
  by_cases z : a = p
  · subst z; rw [up_same] at e ⊢; exact e
  · rw [up_ne z] at e ⊢; exact h a q e
/-- a comprehension whose turns leave the heap as it is -/
theorem lcU_pure {ds : Deps} {p : Addr} {g : U → (USt → UH → Prop) → UH → Prop} {tt : USt → UH → (Bool → UH → Prop) → Prop} {te : USt → UH → UK → Prop} {Q : UK} {G0 : UH} (c : U → Bool) (f : U → U) (hd : ∀ acc, depsOk (up G0 p (.lst acc)) ds) :
    ∀ (ys acc : List U), acc.length + ys.length ≤ sizeLine →
      (∀ y ∈ ys, ∀ (acc : List U) (K1 : UK) (K0 : UH → Prop), (c y = true → K1 (f y) (up G0 p (.lst acc))) → (c y = false → K0 (up G0 p (.lst acc))) → g y (fun s1 G1 => tt s1 G1 fun b G2 => if b = true then te s1 G2 K1 else K0 G2) (up G0 p (.lst acc))) →
      Q (.ref p) (up G0 p (.lst (acc ++ (ys.filter c).map f))) → lcU ds p g tt te Q ys acc (up G0 p (.lst acc))
  | [], acc, _, _, q => ⟨hd acc, up_same, by simpa using q⟩
  | y :: ys, acc, hl, ht, q => by
    refine ⟨hd acc, up_same, ht y List.mem_cons_self acc _ _ (fun hc => ⟨up_same, by simp only [List.length_cons] at hl; omega, _, .refl _, ?_⟩) (fun hc => ⟨_, .refl _, ?_⟩)⟩
    · rw [up_up]
      refine lcU_pure c f hd ys (acc ++ [f y]) (by simp only [List.length_cons, List.length_append, List.length_nil] at hl ⊢; omega) (fun z hz => ht z (List.mem_cons_of_mem _ hz)) ?_
      rw [List.filter_cons, if_pos hc] at q
      simpa using q
    · refine lcU_pure c f hd ys acc (by simp only [List.length_cons] at hl; omega) (fun z hz => ht z (List.mem_cons_of_mem _ hz)) ?_
      rw [List.filter_cons, if_neg (by rw [hc]; exact Bool.false_ne_true)] at q
      exact q
theorem lcU_map {ds : Deps} {p : Addr} {g : U → (USt → UH → Prop) → UH → Prop} {tt : USt → UH → (Bool → UH → Prop) → Prop} {te : USt → UH → UK → Prop} {Q : UK} {G0 : UH} (f : U → U) (hd : ∀ acc, depsOk (up G0 p (.lst acc)) ds)
    (ys acc : List U) (hl : acc.length + ys.length ≤ sizeLine)
      (ht : ∀ y ∈ ys, ∀ (acc : List U) (K1 : UK) (K0 : UH → Prop), K1 (f y) (up G0 p (.lst acc)) → g y (fun s1 G1 => tt s1 G1 fun b G2 => if b = true then te s1 G2 K1 else K0 G2) (up G0 p (.lst acc)))
      (q : Q (.ref p) (up G0 p (.lst (acc ++ ys.map f)))) : lcU ds p g tt te Q ys acc (up G0 p (.lst acc)) := by
  refine lcU_pure (fun _ => true) f hd ys acc hl (fun y hy acc K1 K0 k1 _ => ht y hy acc K1 K0 (k1 rfl)) ?_
  rw [show ys.filter (fun _ => true) = ys from List.filter_eq_self.mpr fun _ _ => rfl]
  exact q
theorem lcK_pure {ds : Deps} {p : Addr} {g : U → (USt → UH → Prop) → UH → Prop} {tt : USt → UH → (Bool → UH → Prop) → Prop} {te : USt → UH → UK → Prop} {K : List U → UH → Prop} {G0 : UH} (c : U → Bool) (f : U → U) (hd : ∀ acc, depsOk (up G0 p (.lst acc)) ds) :
    ∀ (ys acc : List U), acc.length + ys.length ≤ sizeLine →
      (∀ y ∈ ys, ∀ (acc : List U) (K1 : UK) (K0 : UH → Prop), (c y = true → K1 (f y) (up G0 p (.lst acc))) → (c y = false → K0 (up G0 p (.lst acc))) → g y (fun s1 G1 => tt s1 G1 fun b G2 => if b = true then te s1 G2 K1 else K0 G2) (up G0 p (.lst acc))) →
      K (acc ++ (ys.filter c).map f) (up G0 p (.lst (acc ++ (ys.filter c).map f))) → lcK ds p g tt te K ys acc (up G0 p (.lst acc))
  | [], acc, _, _, q => ⟨hd acc, up_same, by simpa using q⟩
  | y :: ys, acc, hl, ht, q => by
    refine ⟨hd acc, up_same, ht y List.mem_cons_self acc _ _ (fun hc => ⟨up_same, by simp only [List.length_cons] at hl; omega, _, .refl _, ?_⟩) (fun hc => ⟨_, .refl _, ?_⟩)⟩
    · rw [up_up]
      refine lcK_pure c f hd ys (acc ++ [f y]) (by simp only [List.length_cons, List.length_append, List.length_nil] at hl ⊢; omega) (fun z hz => ht z (List.mem_cons_of_mem _ hz)) ?_
      rw [List.filter_cons, if_pos hc] at q
      simpa using q
    · refine lcK_pure c f hd ys acc (by simp only [List.length_cons] at hl; omega) (fun z hz => ht z (List.mem_cons_of_mem _ hz)) ?_
      rw [List.filter_cons, if_neg (by rw [hc]; exact Bool.false_ne_true)] at q
      exact q
theorem lc2U_pure {ds : Deps} {p : Addr} {g : U → (USt → UH → Prop) → UH → Prop} {tt : USt → UH → (Bool → UH → Prop) → Prop} {inner : USt → UH → List U → (List U → UH → Prop) → Prop} {Q : UK} {G0 : UH} (f : U → List U) (hd : ∀ acc, depsOk (up G0 p (.lst acc)) ds) :
    ∀ (ys acc : List U), acc.length + (ys.flatMap f).length ≤ sizeLine →
      (∀ y ∈ ys, ∀ (acc : List U) (K : List U → UH → Prop) (K0 : UH → Prop), acc.length + (f y).length ≤ sizeLine → K (acc ++ f y) (up G0 p (.lst (acc ++ f y))) → g y (fun s1 G1 => tt s1 G1 fun b G2 => if b = true then inner s1 G2 acc K else K0 G2) (up G0 p (.lst acc))) →
      Q (.ref p) (up G0 p (.lst (acc ++ ys.flatMap f))) → lc2U ds p g tt inner Q ys acc (up G0 p (.lst acc))
  | [], acc, _, _, q => ⟨hd acc, up_same, by simpa using q⟩
  | y :: ys, acc, hl, ht, q => by
    rw [List.flatMap_cons, List.length_append] at hl
    refine ⟨hd acc, up_same, ht y List.mem_cons_self acc _ _ (by omega) ⟨_, .refl _, ?_⟩⟩
    refine lc2U_pure f hd ys (acc ++ f y) (by rw [List.length_append]; omega) (fun z hz => ht z (List.mem_cons_of_mem _ hz)) ?_
    rw [List.flatMap_cons] at q
    rw [List.append_assoc]
    exact q
theorem depsNil {G : UH} : depsOk G [] := trivial
theorem deps_up {G0 : UH} {p : Addr} {o : UO} : ∀ {ds : Deps}, depsOk G0 ds → G0 p = none → depsOk (up G0 p o) ds
  | [], _, _ => trivial
  | d :: ds, h, hp => ⟨by rw [up_ne (un_of h.1 hp)]; exact h.1, deps_up h.2 hp⟩
theorem deps_le {G G' : UH} (l : Le G G') : ∀ {ds : Deps}, depsOk G ds → depsOk G' ds
  | [], _ => trivial
  | d :: ds, h => ⟨l _ _ h.1, deps_le l h.2⟩
theorem gam_fn {cl hcl : List (Str × USp)} {gls : List (Str × U)} : (gam cl gls hcl).fn = spAt cl := rfl
theorem gam_hf {cl hcl : List (Str × USp)} {gls : List (Str × U)} : (gam cl gls hcl).hf = spAt hcl := rfl
theorem gam_xc {cl hcl : List (Str × USp)} {gls : List (Str × U)} : (gam cl gls hcl).xc = none := rfl
theorem gam_gl {cl hcl : List (Str × USp)} {gls : List (Str × U)} : (gam cl gls hcl).gl = glAt gls := rfl
theorem tab_xcs {cl : List (Str × USp)} {gls : List (Str × U)} {xcs : Xcs} {sub : Nat → Nat → Bool} {kin : Nat → Str → Option Bool} {hcl : List (Str × USp)} {hot : Bool} : (tabOf cl gls xcs sub kin hcl hot).toTab.xcs = xcs := rfl
theorem tab_kin {cl : List (Str × USp)} {gls : List (Str × U)} {xcs : Xcs} {sub : Nat → Nat → Bool} {kin : Nat → Str → Option Bool} {hcl : List (Str × USp)} {hot : Bool} : (tabOf cl gls xcs sub kin hcl hot).kin = kin := rfl
theorem tab_sub {cl : List (Str × USp)} {gls : List (Str × U)} {xcs : Xcs} {sub : Nat → Nat → Bool} {kin : Nat → Str → Option Bool} {hcl : List (Str × USp)} {hot : Bool} : (tabOf cl gls xcs sub kin hcl hot).sub = sub := rfl
theorem UD_nx {Q : UK} {E : UXn → UH → Prop} : (UD Q E).nx = fun _ G => fin (Q .non) G := rfl
theorem UD_rt {Q : UK} {E : UXn → UH → Prop} : (UD Q E).rt = fun u G => fin (Q u) G := rfl
theorem UD_bk {Q : UK} {E : UXn → UH → Prop} : (UD Q E).bk = fun _ _ => False := rfl
theorem UD_ct {Q : UK} {E : UXn → UH → Prop} : (UD Q E).ct = fun _ _ => False := rfl
theorem UD_ex {Q : UK} {E : UXn → UH → Prop} : (UD Q E).ex = fun xn _ G => fin (E xn) G := rfl
/-! ### numbers in a row -/
def rangeI (lo c : Int) : Nat → List Int
  | 0 => []
  | n + 1 => lo :: rangeI (lo + c) c n
theorem rangeU_map : ∀ (n : Nat) (lo c : Int), rangeU lo c n = (rangeI lo c n).map U.int
  | 0, _, _ => rfl
  | n + 1, lo, c => by simp [rangeU, rangeI, rangeU_map n]
theorem rangeI_len : ∀ (n : Nat) (lo c : Int), (rangeI lo c n).length = n
  | 0, _, _ => rfl
  | n + 1, lo, c => by simp [rangeI, rangeI_len n]
theorem rangeI_get : ∀ (n : Nat) (lo c : Int) (i : Nat), i < n → (rangeI lo c n)[i]? = some (lo + i * c)
  | 0, _, _, _, h => by omega
  | n + 1, lo, c, 0, _ => by simp [rangeI]
  | n + 1, lo, c, i + 1, h => by
    simp only [rangeI, List.getElem?_cons_succ]
    rw [rangeI_get n (lo + c) c i (by omega)]
    have : ((i + 1 : Nat) : Int) * c = (i : Int) * c + c := by rw [Int.natCast_add, Int.add_mul]; simp
    congr 1
    omega
theorem rangeI_mem {n : Nat} {lo c j : Int} (h : j ∈ rangeI lo c n) : ∃ i : Nat, i < n ∧ j = lo + i * c := by
  obtain ⟨i, hi, e⟩ := List.mem_iff_getElem.mp h
  rw [rangeI_len] at hi
  have := rangeI_get n lo c i hi
  rw [List.getElem?_eq_getElem (by rw [rangeI_len]; exact hi), Option.some.injEq] at this
  exact ⟨i, hi, by rw [← e, this]⟩
theorem mem_rangeI {n i : Nat} {lo c : Int} (h : i < n) : lo + i * c ∈ rangeI lo c n := List.mem_of_getElem? (rangeI_get n lo c i h)
theorem rlen_lt {i : Nat} {lo hi c : Int} (hc : 0 < c) (h : i < rlen lo hi c) : lo + i * c < hi := by
  unfold rlen at h
  have h1 : ((i : Int) + 1) ≤ (hi - lo + c - 1) / c := by omega
  have h2 := (Int.le_ediv_iff_mul_le hc).mp h1
  rw [Int.add_mul, Int.one_mul] at h2
  omega
theorem lt_rlen {i : Nat} {lo hi c : Int} (hc : 0 < c) (h : lo + i * c < hi) : i < rlen lo hi c := by
  unfold rlen
  have h1 : ((i : Int) + 1) ≤ (hi - lo + c - 1) / c := (Int.le_ediv_iff_mul_le hc).mpr (by rw [Int.add_mul, Int.one_mul]; omega)
  omega
theorem rlen_one {lo hi : Int} : rlen lo hi 1 = (hi - lo).toNat := by unfold rlen; rw [Int.ediv_one]; congr 1; omega
theorem atI_int {ns : List Int} {i : Int} (h : 0 ≤ i) (h2 : i < ns.length) : atI (ns.map U.int) i = some (.int (ns.getD i.toNat 0)) := by
  unfold atI ixN
  rw [List.length_map, if_pos h, if_pos h2]
  show (ns.map U.int)[i.toNat]? = _
  rw [List.getElem?_map, List.getElem?_eq_getElem (by omega)]
  simp [List.getD, List.getElem?_eq_getElem (show i.toNat < ns.length by omega)]
theorem atI_zero {x : U} {xs : List U} : atI (x :: xs) 0 = some x := by
  unfold atI ixN
  rw [if_pos (by decide), if_pos (by simp only [List.length_cons]; omega)]
  rfl
theorem atI_one {x y : U} {xs : List U} : atI (x :: y :: xs) 1 = some y := by
  unfold atI ixN
  rw [if_pos (by decide), if_pos (by simp only [List.length_cons]; omega)]
  rfl
theorem ixN_zero {n : Nat} : ixN (n + 1) 0 = some 0 := by
  unfold ixN
  rw [if_pos (by decide), if_pos (by omega)]
  rfl
theorem ixN_20 : ixN 2 0 = some 0 := rfl
/-- a purse at p: a number, the list at g -/
def Pur (G : UH) (p g : Addr) : Prop := p ≠ g ∧ ∃ (sd : Int) (gr : List Int), G p = some (.lst [.int sd, .ref g]) ∧ G g = some (.lst (gr.map U.int))
theorem Pur.le {G G' : UH} {p g : Addr} (h : Pur G p g) (l : Le G G') : Pur G' p g := by
  obtain ⟨n, sd, gr, h1, h2⟩ := h
  exact ⟨n, sd, gr, l _ _ h1, l _ _ h2⟩
/-- a pick: any number below many; the purse goes on -/
def sp_pick : USp := fun us G Q _ => ∃ p g many, us = [.ref p, .int many] ∧ Pur G p g ∧ 0 < many ∧ many < 1073741824 ∧ ∀ r G', 0 ≤ r → r < many → Pur G' p g → Fr p g G G' → Q (.int r) G'
/-- is a pick this number? -/
theorem if_pick {Γ : Gam} {W : UW} {f i : Nat} {n c : Int} {s : USt} {G : UH} {K : Bool → UH → Prop} {p g : Addr} (hf : Γ.fn f = sp_pick) (hs : getS s i = some (.ref p)) (hP : Pur G p g) (hn : 0 < n) (hn2 : n < 1073741824)
    (h : ∀ r G', 0 ≤ r → r < n → Pur G' p g → Fr p g G G' → K (decide (r = c)) G') : trT Γ W (.cmp .Eq (.call f (.cons (.var i) (.cons (.int n) .nil))) (.int c)) s G K := by
  show uVar i s G fun u G1 => Γ.fn f [u, .int n] G1 _ _
  unfold uVar
  rw [hs, hf]
  exact ⟨p, g, n, rfl, hP, hn, hn2, fun r G' a b hP' f' => by
    show K (false ^^ decide (r = c)) G'
    rw [Bool.false_xor]
    exact h r G' a b hP' f'⟩
theorem Fr.up1 {p g : Addr} {G : UH} {o : UO} : Fr p g G (up G p o) := fun a o' h1 _ e => by rw [up_ne h1]; exact e
theorem Fr.up2 {p g : Addr} {G : UH} {o : UO} : Fr p g G (up G g o) := fun a o' _ h2 e => by rw [up_ne h2]; exact e
theorem atI_nat {us : List U} {i : Int} {u : U} (h : 0 ≤ i) (h2 : us[i.toNat]? = some u) : atI us i = some u := by
  have hl : i.toNat < us.length := (List.getElem?_eq_some_iff.mp h2).1
  unfold atI ixN
  rw [if_pos h, if_pos (by omega)]
  exact h2
theorem ixN_nat {n : Nat} {i : Int} (h : 0 ≤ i) (h2 : i < n) : ixN n i = some i.toNat := by unfold ixN; rw [if_pos h, if_pos h2]
/-! ### isinstance -/
def kI : U → Bool
  | .int _ => true
  | .bl _ => true
  | _ => false
def kB : U → Bool
  | .bl _ => true
  | _ => false
def kT : U → Bool
  | .tup _ => true
  | _ => false
def kS : U → Bool
  | .str _ => true
  | _ => false
theorem isi_of {f : U → Bool} {T : String} (hT : T ∈ tyNames) (h : ∀ (G : UH) (u : U) (t : String), tyN G u = some t → isSub t T = f u) {G : UH} {u : U} {Q : UK} (ht : tyS G u) (q : Q (.bl (f u)) G) : uIsi [u, .ty T] G Q := by
  unfold tyS at ht
  unfold uIsi
  cases e : tyN G u with
  | none => rw [e] at ht; cases ht
  | some t =>
    simp only [e]
    exact ⟨hT, by rw [h G u t e]; exact q⟩
theorem ref_ty {G : UH} {a : Addr} {t : String} (h : tyN G (.ref a) = some t) : t = "list" ∨ t = "dict" := by
  unfold tyN at h
  dsimp only at h
  split at h
  · exact .inl (Option.some.inj h).symm
  · exact .inr (Option.some.inj h).symm
  · cases h
theorem isi_int {G : UH} {u : U} {Q : UK} (ht : tyS G u) (q : Q (.bl (kI u)) G) : uIsi [u, .ty "int"] G Q := by
  refine isi_of (by decide) (fun G u t e => ?_) ht q
  cases u with
  | ref a => rcases ref_ty e with rfl | rfl <;> rfl
  | ty n => cases e
  | _ => cases e; rfl
theorem isi_bool {G : UH} {u : U} {Q : UK} (ht : tyS G u) (q : Q (.bl (kB u)) G) : uIsi [u, .ty "bool"] G Q := by
  refine isi_of (by decide) (fun G u t e => ?_) ht q
  cases u with
  | ref a => rcases ref_ty e with rfl | rfl <;> rfl
  | ty n => cases e
  | _ => cases e; rfl
theorem isi_tuple {G : UH} {u : U} {Q : UK} (ht : tyS G u) (q : Q (.bl (kT u)) G) : uIsi [u, .ty "tuple"] G Q := by
  refine isi_of (by decide) (fun G u t e => ?_) ht q
  cases u with
  | ref a => rcases ref_ty e with rfl | rfl <;> rfl
  | ty n => cases e
  | _ => cases e; rfl
theorem isi_str {G : UH} {u : U} {Q : UK} (ht : tyS G u) (q : Q (.bl (kS u)) G) : uIsi [u, .ty "str"] G Q := by
  refine isi_of (by decide) (fun G u t e => ?_) ht q
  cases u with
  | ref a => rcases ref_ty e with rfl | rfl <;> rfl
  | ty n => cases e
  | _ => cases e; rfl
theorem tyS_le {G G' : UH} (l : Le G G') {u : U} (h : tyS G u) : tyS G' u := by
  unfold tyS at *
  cases u with
  | ref a =>
    unfold tyN at h ⊢
    dsimp only at h ⊢
    cases e : G a with
    | none => rw [e] at h; cases h
    | some o => rw [e] at h; rw [l a o e]; exact h
  | ty n => cases h
  | _ => rfl
end UL
set_option Elab.async false
set_option linter.all false
set_option autoImplicit false
set_option maxRecDepth 100000
set_option maxHeartbeats 4000000
/-! UL18: rows of whole numbers that are compared. -/
namespace UL
open PySem PySem.Spec L2
theorem toDs_int : ∀ ns : List Int, toDs (ns.map U.int) = some (ns.map PyData.int)
  | [] => rfl
  | n :: ns => by simp [toDs, toD, toDs_int ns]
theorem eqv_ints : ∀ ns ms : List Int, PyData.eqvAll (ns.map PyData.int) (ms.map PyData.int) = decide (ns = ms)
  | [], [] => by simp [PyData.eqvAll]
  | [], m :: ms => by simp [PyData.eqvAll]
  | n :: ns, [] => by simp [PyData.eqvAll]
  | n :: ns, m :: ms => by
    rw [List.map_cons, List.map_cons]
    unfold PyData.eqvAll
    rw [eqv_ints ns ms]
    by_cases h1 : n = m
    · by_cases h2 : ns = ms
      · simp [PyData.eqv, h1, h2]
      · simp [PyData.eqv, h1, h2]
    · simp [PyData.eqv, h1]
theorem shaped_tup (ns : List Int) : SeqAt.shaped (.tuple (ns.map PyData.int)) = true := by
  have h : ∀ ns : List Int, PyData.canLayAll0 (ns.map PyData.int) = true ∧ PyData.depthAll (ns.map PyData.int) ≤ 1 := by
    intro ns
    induction ns with
    | nil => exact ⟨rfl, by decide⟩
    | cons n ns ih => exact ⟨by simpa [PyData.canLayAll0, PyData.canLay0] using ih.1, by simpa [PyData.depthAll, PyData.depth] using ih.2⟩
  unfold SeqAt.shaped
  obtain ⟨h1, h2⟩ := h ns
  simp only [PyData.canLay0, PyData.depth, h1, Bool.true_and, decide_eq_true_eq]
  exact decide_eq_true (Nat.le_trans (Nat.succ_le_succ h2) (show 2 ≤ 64 by decide))
theorem shaped_lst (ns : List Int) : SeqAt.shaped (.list (ns.map PyData.int)) = true := shaped_tup ns
/-- a row of numbers is compared with a row of numbers -/
theorem eq_tups {neg : Bool} {ns ms : List Int} {G : UH} {Q : UK} (h : Q (.bl (neg ^^ decide (ns = ms))) G) : uEqF neg (.tup (ns.map U.int)) (.tup (ms.map U.int)) G Q := by
  show (match dOf G (.tup (ns.map U.int)), dOf G (.tup (ms.map U.int)) with
    | some d, some e => SeqAt.shaped d = true ∧ SeqAt.shaped e = true ∧ Q (.bl (neg ^^ PyData.eqv d e)) G
    | _, _ => False)
  have h1 : ∀ ks : List Int, dOf G (.tup (ks.map U.int)) = some (.tuple (ks.map PyData.int)) := fun ks => by
    show toD (.tup (ks.map U.int)) = _
    unfold toD
    rw [toDs_int]
    rfl
  rw [h1, h1]
  exact ⟨shaped_tup _, shaped_tup _, by rw [show PyData.eqv (.tuple (ns.map PyData.int)) (.tuple (ms.map PyData.int)) = PyData.eqvAll (ns.map PyData.int) (ms.map PyData.int) from by simp [PyData.eqv], eqv_ints]; exact h⟩
theorem eq_refs {neg : Bool} {a b : Addr} {ns ms : List Int} {G : UH} {Q : UK} (ha : G a = some (.lst (ns.map U.int))) (hb : G b = some (.lst (ms.map U.int))) (h : Q (.bl (neg ^^ decide (ns = ms))) G) : uEqF neg (.ref a) (.ref b) G Q := by
  show (match dOf G (.ref a), dOf G (.ref b) with
    | some d, some e => SeqAt.shaped d = true ∧ SeqAt.shaped e = true ∧ Q (.bl (neg ^^ PyData.eqv d e)) G
    | _, _ => False)
  have h1 : ∀ (c : Addr) (ks : List Int), G c = some (.lst (ks.map U.int)) → dOf G (.ref c) = some (.list (ks.map PyData.int)) := fun c ks e => by
    unfold dOf
    simp only [e, toDs_int, Option.map_some]
  rw [h1 a ns ha, h1 b ms hb]
  exact ⟨shaped_lst _, shaped_lst _, by rw [show PyData.eqv (.list (ns.map PyData.int)) (.list (ms.map PyData.int)) = PyData.eqvAll (ns.map PyData.int) (ms.map PyData.int) from by simp [PyData.eqv], eqv_ints]; exact h⟩
theorem dOf_tup {G : UH} (ks : List Int) : dOf G (.tup (ks.map U.int)) = some (.tuple (ks.map PyData.int)) := by
  show toD (.tup (ks.map U.int)) = _
  unfold toD
  rw [toDs_int]
  rfl
theorem dOf_lst {G : UH} {c : Addr} {ks : List Int} (e : G c = some (.lst (ks.map U.int))) : dOf G (.ref c) = some (.list (ks.map PyData.int)) := by
  unfold dOf
  simp only [e, toDs_int, Option.map_some]
theorem eqv_tup (ns ms : List Int) : PyData.eqv (.tuple (ns.map PyData.int)) (.tuple (ms.map PyData.int)) = decide (ns = ms) := by
  rw [← eqv_ints]
  simp [PyData.eqv]
theorem eqv_lst (ns ms : List Int) : PyData.eqv (.list (ns.map PyData.int)) (.list (ms.map PyData.int)) = decide (ns = ms) := by
  rw [← eqv_ints]
  simp [PyData.eqv]
/-- a comprehension whose turns change the heap elsewhere: what each item keeps -/
theorem lcU_acc {p : Addr} {g : U → (USt → UH → Prop) → UH → Prop} {tt : USt → UH → (Bool → UH → Prop) → Prop} {te : USt → UH → UK → Prop} {Q : UK} (I : UH → Prop) (P : U → Prop) (hI : ∀ G acc, I G → I (up G p (.lst acc))) (n : Nat) (hn : n ≤ sizeLine)
    (q : ∀ G acc, I G → G p = some (.lst acc) → (∀ a ∈ acc, P a) → acc.length = n → Q (.ref p) G) :
    ∀ (ys acc : List U) (G : UH), acc.length + ys.length = n → I G → G p = some (.lst acc) → (∀ a ∈ acc, P a) →
      (∀ y ∈ ys, ∀ (acc : List U) (G : UH) (K1 : UK) (K0 : UH → Prop), I G → G p = some (.lst acc) → (∀ u G', P u → I G' → G' p = some (.lst acc) → K1 u G') → g y (fun s1 G1 => tt s1 G1 fun b G2 => if b = true then te s1 G2 K1 else K0 G2) G) →
      lcU [] p g tt te Q ys acc G
  | [], acc, G, hl, hi, hp, ha, _ => ⟨trivial, hp, q G acc hi hp ha (by simpa using hl)⟩
  | y :: ys, acc, G, hl, hi, hp, ha, st => by
    refine ⟨trivial, hp, st y List.mem_cons_self acc G _ _ hi hp fun u G' hu hi' hp' => ⟨hp', by simp only [List.length_cons] at hl; omega, _, .refl _, ?_⟩⟩
    refine lcU_acc I P hI n hn q ys (acc ++ [u]) _ (by simp only [List.length_cons, List.length_append, List.length_nil] at hl ⊢; omega) (hI _ _ hi') up_same (fun a h => ?_) fun y hy => st y (List.mem_cons_of_mem _ hy)
    rw [List.mem_append] at h
    rcases h with h | h
    · exact ha a h
    · rw [List.mem_singleton.mp h]
      exact hu
theorem Pur.upf {G : UH} {p g a : Addr} {o : UO} (h : Pur G p g) (ha : G a = none) : Pur (up G a o) p g := h.le (.new ha)
theorem Pur.upn {G : UH} {p g a : Addr} {o : UO} (h : Pur G p g) (h1 : p ≠ a) (h2 : g ≠ a) : Pur (up G a o) p g := by
  obtain ⟨n, sd, gr, e1, e2⟩ := h
  exact ⟨n, sd, gr, by rw [up_ne h1]; exact e1, by rw [up_ne h2]; exact e2⟩
theorem Pur.ne {G : UH} {p g a : Addr} (h : Pur G p g) (ha : G a = none) : p ≠ a ∧ g ≠ a := by
  obtain ⟨n, sd, gr, e1, e2⟩ := h
  exact ⟨fun z => (by subst z; rw [ha] at e1; cases e1), fun z => (by subst z; rw [ha] at e2; cases e2)⟩
theorem intsOf_int : ∀ ns : List Int, intsOf (ns.map U.int) = some ns
  | [] => rfl
  | n :: ns => by rw [List.map_cons]; unfold intsOf; rw [intsOf_int ns]; rfl
theorem sorted_of {G : UH} {a : Addr} {ns : List Int} {Q : UK} (h : G a = some (.lst (ns.map U.int))) (q : ∀ ns' : List Int, ns'.Perm ns → ns'.Pairwise (· ≤ ·) → ∀ p, G p = none → Q (.ref p) (up G p (.lst (ns'.map U.int)))) : uSorted [.ref a] G Q := by
  unfold uSorted uIntL
  simp only [h, intsOf_int]
  exact q
/-- three in order -/
theorem sort3 {a x b : Int} (hab : a ≤ b) {l : List Int} (hp : l.Perm [a, x, b]) (hs : l.Pairwise (· ≤ ·)) : ∃ u v, l = [u, max a (min b x), v] := by
  have go : ∀ m : List Int, m.Perm [a, x, b] → m.Pairwise (· ≤ ·) → l = m := fun m h1 h2 => List.Perm.eq_of_pairwise (fun _ _ _ _ h h' => Int.le_antisymm h h') hs h2 (hp.trans h1.symm)
  by_cases c : x < a
  · refine ⟨x, b, ?_⟩
    rw [show max a (min b x) = a by omega]
    exact go _ (List.Perm.swap a x [b]) (by simp; omega)
  · by_cases c2 : b < x
    · refine ⟨a, x, ?_⟩
      rw [show max a (min b x) = b by omega]
      exact go _ (List.Perm.cons a (List.Perm.swap x b [])) (by simp; omega)
    · refine ⟨a, b, ?_⟩
      rw [show max a (min b x) = x by omega]
      exact go _ (List.Perm.refl _) (by simp; omega)
theorem cut_drop {us : List U} {i : Int} (h : 0 ≤ i) : cutU us (some i) none = us.drop i.toNat := by
  unfold cutU HT.sIx
  simp only
  rw [if_neg (by omega)]
  by_cases c : i.toNat ≤ us.length
  · rw [Nat.min_eq_left c]
    exact List.take_of_length_le (by rw [List.length_drop]; exact Nat.le_refl _)
  · rw [Nat.min_eq_right (by omega), List.drop_length, List.take_nil, List.drop_of_length_le (by omega)]
end UL
set_option Elab.async false
set_option linter.all false
set_option autoImplicit false
set_option maxRecDepth 100000
set_option maxHeartbeats 4000000
/-! UL19: the end. -/
namespace UL
open PySem PySem.Spec L2
theorem fn_cx {P : Program} {w : World} {K : PySem.W.Frag} {mg : Str → Option Value} {base : Heap} {C1 C2 : CXT} {k : Nat} {f : Addr} {fd : FuncData} {ps : List Str} {sp : Sp} (F : FnOk P w K mg base C1 k f fd ps sp) (h : ∀ o H s E e s', C1 o H s E e s' → C2 o H s E e s') : FnOk P w K mg base C2 k f fd ps sp :=
  ⟨F.len, fun A outer s H args us vs Q E hr he hb hv hs => codeAny_mono (F.run A outer s H args us vs Q E hr he hb hv hs) fun r s' hq => by
    cases r with
    | ok x => cases x <;> exact hq
    | error e => exact h _ _ _ _ _ _ hq⟩
def CXA (P : Program) : CXT := fun o H s E e s' => ∃ w, L2N.CX P w o H s E e s'
theorem cxa_end {P : Program} (H : Hp) (s : Shared) (e : Value) (s' : Shared) (h : CXA P [] H s (fun _ _ _ => False) e s') : False := by
  obtain ⟨w, a, B, H', cls, d, _, _, _, _, _, _, _, hE⟩ := h
  exact hE
theorem rep_flat (n : Nat) (u : U) : (List.replicate n [u]).flatten = List.replicate n u := by
  induction n with
  | zero => rfl
  | succ n ih => simp [List.replicate_succ, ih]
theorem rangeI_last : ∀ (n : Nat) (lo c : Int), rangeI lo c (n + 1) = rangeI lo c n ++ [lo + n * c]
  | 0, lo, c => by simp [rangeI]
  | n + 1, lo, c => by
    have ih := rangeI_last n (lo + c) c
    rw [show rangeI lo c (n + 1 + 1) = lo :: rangeI (lo + c) c (n + 1) from rfl, ih]
    have e : lo + c + (n : Int) * c = lo + ((n + 1 : Nat) : Int) * c := by
      rw [Int.natCast_add, Int.add_mul]; omega
    rw [e]
    rfl
theorem fm_range {α : Type} {f : Nat → Option α} : ∀ n, (∀ m, m < n → ∃ x, f m = some x) → ((List.range n).filterMap f).length = n ∧ ∀ i, ((List.range n).filterMap f)[i]? = if i < n then f i else none
  | 0, _ => ⟨rfl, fun i => by simp⟩
  | n + 1, h => by
    obtain ⟨h1, h2⟩ := fm_range n (fun m hm => h m (by omega))
    obtain ⟨x, hx⟩ := h n (by omega)
    have e : (List.range (n + 1)).filterMap f = (List.range n).filterMap f ++ [x] := by
      rw [List.range_succ, List.filterMap_append]
      simp [hx]
    rw [e]
    refine ⟨by rw [List.length_append, h1]; rfl, fun i => ?_⟩
    rw [List.getElem?_append, h1]
    by_cases c : i < n
    · rw [if_pos c, h2, if_pos c, if_pos (by omega)]
    · rw [if_neg c]
      by_cases c2 : i = n
      · subst c2
        simp [hx]
      · rw [if_neg (by omega)]
        exact List.getElem?_eq_none (by simp; omega)
theorem stp_rev {α : Type} (xs : List α) : stp xs (-1) = xs.reverse := by
  have hn : stpN (-1) xs.length = xs.length := by
    unfold stpN
    rw [if_neg (by decide)]
    by_cases h : (xs.length : Int) - 1 > -1
    · rw [if_pos h, show -(-1 : Int) = 1 from rfl, Int.ediv_one]
      omega
    · rw [if_neg h]
      omega
  have hlo : stpLo (-1) xs.length = (xs.length : Int) - 1 := by
    unfold stpLo
    rw [if_pos (by decide)]
  have hf : ∀ j : Nat, ((xs.length : Int) - 1 + (j : Int) * (-1)).toNat = xs.length - 1 - j := fun j => by omega
  unfold stp
  simp only [hn, hlo, hf]
  obtain ⟨h1, h2⟩ := fm_range (f := fun j => xs[xs.length - 1 - j]?) xs.length (fun j hj => ⟨_, List.getElem?_eq_getElem (by omega)⟩)
  apply List.ext_getElem?
  intro i
  rw [h2]
  by_cases c : i < xs.length
  · rw [if_pos c, List.getElem?_reverse c]
  · rw [if_neg c]
    exact (List.getElem?_eq_none (by rw [List.length_reverse]; omega)).symm
theorem le_up {G0 G : UH} {a : Addr} {o : UO} (h0 : G0 a = none) (l : Le G0 G) : Le G0 (up G a o) := fun b u e => by
  rw [up_ne (fun z => by subst z; rw [h0] at e; cases e)]
  exact l b u e
/-- a comprehension whose turns let the heap grow -/
theorem lcU_grow {ds : Deps} {p : Addr} {g : U → (USt → UH → Prop) → UH → Prop} {tt : USt → UH → (Bool → UH → Prop) → Prop} {te : USt → UH → UK → Prop} {Q : UK} (f : U → U) {G0 : UH} (h0 : G0 p = none) (hd : depsOk G0 ds) :
    ∀ (ys acc : List U) (G : UH), Le G0 G → G p = some (.lst acc) → acc.length + ys.length ≤ sizeLine →
      (∀ y ∈ ys, ∀ (acc : List U) (G : UH) (K1 : UK) (K0 : UH → Prop), Le G0 G → G p = some (.lst acc) → (∀ G', Le G G' → K1 (f y) G') → g y (fun s1 G1 => tt s1 G1 fun b G2 => if b = true then te s1 G2 K1 else K0 G2) G) →
      (∀ G, Le G0 G → G p = some (.lst (acc ++ ys.map f)) → Q (.ref p) G) → lcU ds p g tt te Q ys acc G
  | [], acc, G, l, h, _, _, q => ⟨deps_le l hd, h, q G l (by rw [List.map_nil, List.append_nil]; exact h)⟩
  | y :: ys, acc, G, l, h, hl, st, q => by
    refine ⟨deps_le l hd, h, st y List.mem_cons_self acc G _ _ l h fun G' l' => ⟨l' _ _ h, by simp only [List.length_cons] at hl; omega, _, .refl _, ?_⟩⟩
    refine lcU_grow f h0 hd ys (acc ++ [f y]) _ (le_up h0 (l.trans l')) up_same (by simp only [List.length_cons, List.length_append, List.length_nil] at hl ⊢; omega) (fun z hz => st z (List.mem_cons_of_mem _ hz)) fun G2 l2 h2 => q G2 l2 ?_
    rw [h2]
    simp
theorem z_0 : (0 ≤ sizeLine) = True := eq_true (by have := line_ge; omega)
theorem z_1 : (1 ≤ sizeLine) = True := eq_true (by have := line_ge; omega)
theorem z_2 : (2 ≤ sizeLine) = True := eq_true (by have := line_ge; omega)
theorem z_3 : (3 ≤ sizeLine) = True := eq_true (by have := line_ge; omega)
theorem z_4 : (4 ≤ sizeLine) = True := eq_true (by have := line_ge; omega)
theorem z_5 : (5 ≤ sizeLine) = True := eq_true (by have := line_ge; omega)
theorem z_6 : (6 ≤ sizeLine) = True := eq_true (by have := line_ge; omega)
theorem z_7 : (7 ≤ sizeLine) = True := eq_true (by have := line_ge; omega)
theorem z_8 : (8 ≤ sizeLine) = True := eq_true (by have := line_ge; omega)
theorem z_9 : (9 ≤ sizeLine) = True := eq_true (by have := line_ge; omega)
theorem z_10 : (10 ≤ sizeLine) = True := eq_true (by have := line_ge; omega)
theorem z_11 : (11 ≤ sizeLine) = True := eq_true (by have := line_ge; omega)
theorem z_12 : (12 ≤ sizeLine) = True := eq_true (by have := line_ge; omega)
theorem z_13 : (13 ≤ sizeLine) = True := eq_true (by have := line_ge; omega)
theorem z_14 : (14 ≤ sizeLine) = True := eq_true (by have := line_ge; omega)
theorem z_15 : (15 ≤ sizeLine) = True := eq_true (by have := line_ge; omega)
theorem z_16 : (16 ≤ sizeLine) = True := eq_true (by have := line_ge; omega)
/-- what is of a type stays so -/
def Tk (G G' : UH) : Prop := ∀ u, tyS G u → tyS G' u
theorem Tk.of_le {G G' : UH} (l : Le G G') : Tk G G' := fun _ h => tyS_le l h
theorem Tk.trans {G1 G2 G3 : UH} (a : Tk G1 G2) (b : Tk G2 G3) : Tk G1 G3 := fun u h => b u (a u h)
theorem ty_ref {G : UH} {a : Addr} {us : List U} (h : G a = some (.lst us)) : tyS G (.ref a) := by
  unfold tyS tyN
  simp [h]
theorem Tk.of_ref {G G' : UH} (h : ∀ a, tyS G (.ref a) → tyS G' (.ref a)) : Tk G G' := fun u hu => by
  cases u with
  | ref a => exact h a hu
  | ty n => exact hu
  | _ => rfl
theorem Tk.of_fr {p g : Addr} {G G' : UH} (hP : Pur G' p g) (f : Fr p g G G') : Tk G G' := Tk.of_ref fun a h => by
  obtain ⟨_, sd, gr, e1, e2⟩ := hP
  by_cases h1 : a = p
  · subst h1; exact ty_ref e1
  · by_cases h2 : a = g
    · subst h2; exact ty_ref e2
    · unfold tyS tyN at h ⊢
      dsimp only at h ⊢
      cases e : G a with
      | none => rw [e] at h; cases h
      | some o => rw [e] at h; rw [f a o h1 h2 e]; exact h
theorem Tk.of_up {G : UH} {r : Addr} {x y : List U} (h : G r = some (.lst x)) : Tk G (up G r (.lst y)) := Tk.of_ref fun a ha => by
  by_cases e : a = r
  · subst e; exact ty_ref up_same
  · unfold tyS tyN at ha ⊢
    dsimp only at ha ⊢
    rw [up_ne e]
    exact ha
theorem inH_xc {Γ : Gam} {c : XcI} : (Γ.inH c).xc = some c := rfl
theorem inH_fn {Γ : Gam} {c : XcI} : (Γ.inH c).fn = Γ.hf := rfl
theorem inH_gl {Γ : Gam} {c : XcI} : (Γ.inH c).gl = Γ.gl := rfl
/-! ### rows by what is known of them -/
def SqU (G : UH) (row : U) (ws : List U) : Prop := row = .tup ws ∨ ∃ a, row = .ref a ∧ G a = some (.lst ws)
theorem SqU.le {G G' : UH} (l : Le G G') {row : U} {ws : List U} (h : SqU G row ws) : SqU G' row ws := by
  rcases h with h | ⟨a, h, h2⟩
  · exact .inl h
  · exact .inr ⟨a, h, l _ _ h2⟩
theorem len_sq {G : UH} {row : U} {ws : List U} (h : SqU G row ws) {Q : UK} (q : Q (.int ws.length) G) : uLen [row] G Q := by
  rcases h with rfl | ⟨a, rfl, e⟩
  · exact q
  · unfold uLen
    simp only [e]
    exact q
theorem ix_sq {G : UH} {row : U} {ws : List U} (h : SqU G row ws) {i : Int} {u : U} (e : atI ws i = some u) {Q : UK} (q : Q u G) : uIx row (.int i) G Q := by
  rcases h with rfl | ⟨a, rfl, e2⟩
  · unfold uIx
    simp only [e]
    exact q
  · unfold uIx
    simp only [e2, e]
    exact q
theorem seq_sq {G : UH} {row : U} {ws : List U} (h : SqU G row ws) {k : Deps → List U → Prop} (q : ∀ ds, depsOk G ds → k ds ws) : seqOf row G k := by
  rcases h with rfl | ⟨a, rfl, e⟩
  · exact q [] trivial
  · unfold seqOf
    simp only [e]
    exact q _ ⟨e, trivial⟩
end UL
set_option Elab.async false
set_option linter.all false
set_option autoImplicit false
set_option maxHeartbeats 4000000

/-! the trees of the law (written by gen.py) -/
namespace K81
open PySem PySem.Spec L2 UL
set_option maxRecDepth 100000
def top (i : Nat) : Stmt := PySem.Challenge.pw_samesamples_k81_sounds_texts.main.body.getD i (.Pass ⟨0, 0, 0, 0⟩)
def xcs : Xcs := [("NotUsable", ["at", "word"]), ("BadText", ["row"])]
def sub : Nat → Nat → Bool
  | 0, 0 => true
  | 1, 1 => true
  | _, _ => false
abbrev s_is_integer : Stmt := top 7
def n_is_integer : List Str := ["thing"]
def p_is_integer : List Str := ["thing"]
@[irreducible] def b_is_integer : Sms := (.cons (.ret (.and (.blt .isi (.cons (.var 0) (.cons (.ty "int") .nil))) (.not (.blt .isi (.cons (.var 0) (.cons (.ty "bool") .nil)))))) .nil)
-- is_integer: slots [(0, 'thing')]; calls []; hot []; cells []
abbrev s_is_worth : Stmt := top 8
def n_is_worth : List Str := ["thing"]
def p_is_worth : List Str := ["thing"]
@[irreducible] def b_is_worth : Sms := (.cons (.ret (.and (.call 0 (.cons (.var 0) .nil)) (.chain .LtE .LtE (.neg (.gl 0)) (.var 0) (.gl 0)))) .nil)
-- is_worth: slots [(0, 'thing')]; calls ['is_integer']; hot []; cells []
abbrev s_is_sound : Stmt := top 9
def n_is_sound : List Str := ["thing", "worth"]
def p_is_sound : List Str := ["thing"]
@[irreducible] def l1_is_sound : Sms := (.cons (.ife (.not (.call 0 (.cons (.var 1) .nil))) (.cons (.ret (.bl false)) .nil) .nil) .nil)
@[irreducible] def t1_is_sound : Sms := (.cons (.ret (.bl true)) .nil)
@[irreducible] def t2_is_sound : Sms := (.cons (.for_ (.nm 1) (.val (.var 0)) l1_is_sound) t1_is_sound)
@[irreducible] def b_is_sound : Sms := (.cons (.ife (.not (.blt .isi (.cons (.var 0) (.cons (.ty "tuple") .nil)))) (.cons (.ret (.bl false)) .nil) .nil) t2_is_sound)
-- is_sound: slots [(0, 'thing'), (1, 'worth')]; calls ['is_worth']; hot []; cells []
abbrev s_show_sound : Stmt := top 11
def n_show_sound : List Str := ["sound", "words", "low", "high"]
def p_show_sound : List Str := ["sound"]
@[irreducible] def t1_show_sound : Sms := (.cons (.asg (.nm 2) (.var 3)) .nil)
@[irreducible] def l1_show_sound : Sms := (.cons (.ife (.or (.cmp .Eq (.var 3) (.blt .len (.cons (.var 0) .nil))) (.cmp .NotEq (.ix (.var 0) (.var 3)) (.ix (.var 0) (.var 2)))) (.cons (.expr (.mth .append (.var 1) (.cons (.jn (.cons (.fmt (.ix (.var 0) (.var 2))) (.cons (.str "*") (.cons (.fmt (.bin .Sub (.var 3) (.var 2))) .nil)))) .nil))) t1_show_sound) .nil) .nil)
@[irreducible] def t2_show_sound : Sms := (.cons (.ret (.mth .join (.str " ") (.cons (.var 1) .nil))) .nil)
@[irreducible] def t3_show_sound : Sms := (.cons (.for_ (.nm 3) (.rng2 (.int 1) (.bin .Add (.blt .len (.cons (.var 0) .nil)) (.int 1))) l1_show_sound) t2_show_sound)
@[irreducible] def t4_show_sound : Sms := (.cons (.par2 1 2 (.cons (.lst (.cons (.str "sound") (.cons (.blt .str (.cons (.blt .len (.cons (.var 0) .nil)) .nil)) .nil))) (.cons (.int 0) .nil))) t3_show_sound)
@[irreducible] def b_show_sound : Sms := (.cons (.ife (.not (.call 0 (.cons (.var 0) .nil))) (.cons (.raise 0 (.cons (.str "sound") (.cons (.neg (.int 1)) .nil))) .nil) .nil) t4_show_sound)
-- show_sound: slots [(0, 'sound'), (1, 'words'), (2, 'low'), (3, 'high')]; calls ['is_sound']; hot []; cells []
abbrev s__sound_figures : Stmt := top 12
def n__sound_figures : List Str := ["word", "sign"]
def p__sound_figures : List Str := ["word"]
@[irreducible] def t1__sound_figures : Sms := (.cons (.ret (.blt .int (.cons (.var 0) .nil))) .nil)
@[irreducible] def t2__sound_figures : Sms := (.cons (.ife (.and (.cmp .Eq (.ix (.var 0) (.int 0)) (.str "0")) (.cmp .NotEq (.var 0) (.str "0"))) (.cons (.ret .non) .nil) .nil) t1__sound_figures)
@[irreducible] def b__sound_figures : Sms := (.cons (.ife (.or (.cmp .Eq (.var 0) (.str "")) (.or (.cmp .Gt (.blt .len (.cons (.var 0) .nil)) (.int 7)) (.not (.blt .all (.cons (.lc (.cmp .In (.var 1) (.str "0123456789")) (.nm 1) (.val (.var 0)) .no) .nil))))) (.cons (.ret .non) .nil) .nil) t2__sound_figures)
-- _sound_figures: slots [(0, 'word'), (1, 'sign')]; calls []; hot []; cells []
abbrev s__sound_worth : Stmt := top 13
def n__sound_worth : List Str := ["word", "number", "worth"]
def p__sound_worth : List Str := ["word"]
@[irreducible] def t1__sound_worth : Sms := (.cons (.asg (.nm 2) (.ife (.or (.cmp .Is (.var 1) .non) (.cmp .Eq (.var 1) (.int 0))) .non (.neg (.var 1)))) .nil)
@[irreducible] def t2__sound_worth : Sms := (.cons (.ret (.ife (.call 1 (.cons (.var 2) .nil)) (.var 2) .non)) .nil)
@[irreducible] def b__sound_worth : Sms := (.cons (.ife (.cmp .Eq (.sl (.var 0) .no (.yes (.int 1))) (.str "-")) (.cons (.asg (.nm 1) (.call 0 (.cons (.sl (.var 0) (.yes (.int 1)) .no) .nil))) t1__sound_worth) (.cons (.asg (.nm 2) (.call 0 (.cons (.var 0) .nil))) .nil)) t2__sound_worth)
-- _sound_worth: slots [(0, 'word'), (1, 'number'), (2, 'worth')]; calls ['_sound_figures', 'is_worth']; hot []; cells []
abbrev s__sound_stretch : Stmt := top 14
def n__sound_stretch : List Str := ["word", "pair", "worth", "many"]
def p__sound_stretch : List Str := ["word"]
@[irreducible] def t1__sound_stretch : Sms := (.cons (.ret (.tup (.cons (.var 2) (.cons (.var 3) .nil)))) .nil)
@[irreducible] def t2__sound_stretch : Sms := (.cons (.ife (.or (.cmp .Is (.var 2) .non) (.or (.cmp .Is (.var 3) .non) (.cmp .Eq (.var 3) (.int 0)))) (.cons (.ret .non) .nil) .nil) t1__sound_stretch)
@[irreducible] def t3__sound_stretch : Sms := (.cons (.par2 2 3 (.cons (.call 1 (.cons (.ix (.var 1) (.int 0)) .nil)) (.cons (.call 0 (.cons (.ix (.var 1) (.int 1)) .nil)) .nil))) t2__sound_stretch)
@[irreducible] def t4__sound_stretch : Sms := (.cons (.ife (.cmp .NotEq (.blt .len (.cons (.var 1) .nil)) (.int 2)) (.cons (.ret .non) .nil) .nil) t3__sound_stretch)
@[irreducible] def b__sound_stretch : Sms := (.cons (.asg (.nm 1) (.mth .split (.var 0) (.cons (.str "*") .nil))) t4__sound_stretch)
-- _sound_stretch: slots [(0, 'word'), (1, 'pair'), (2, 'worth'), (3, 'many')]; calls ['_sound_figures', '_sound_worth']; hot []; cells []
abbrev s__sound_text_stated : Stmt := top 15
def n__sound_text_stated : List Str := ["thing", "sign"]
def p__sound_text_stated : List Str := ["thing"]
@[irreducible] def t1__sound_text_stated : Sms := (.cons (.ret (.blt .all (.cons (.lc (.or (.cmp .Eq (.var 1) (.str "\n")) (.and (.chain .LtE .LtE (.str " ") (.var 1) (.str "~")) (.cmp .NotEq (.blt .ord (.cons (.var 1) .nil)) (.int 37)))) (.nm 1) (.val (.var 0)) .no) .nil))) .nil)
@[irreducible] def b__sound_text_stated : Sms := (.cons (.ife (.not (.blt .isi (.cons (.var 0) (.cons (.ty "str") .nil)))) (.cons (.ret (.bl false)) .nil) .nil) t1__sound_text_stated)
-- _sound_text_stated: slots [(0, 'thing'), (1, 'sign')]; calls []; hot []; cells []
abbrev s_read_sound : Stmt := top 16
def n_read_sound : List Str := ["text", "words", "length", "worths", "before", "word", "stretch"]
def p_read_sound : List Str := ["text"]
@[irreducible] def t1_read_sound : Sms := (.cons (.expr (.mth .extend (.var 3) (.cons (.bin .Mult (.lst (.cons (.var 4) .nil)) (.ix (.var 6) (.int 1))) .nil))) .nil)
@[irreducible] def t2_read_sound : Sms := (.cons (.asg (.nm 4) (.ix (.var 6) (.int 0))) t1_read_sound)
@[irreducible] def t3_read_sound : Sms := (.cons (.ife (.or (.cmp .Is (.var 6) .non) (.or (.cmp .Eq (.ix (.var 6) (.int 0)) (.var 4)) (.cmp .Gt (.bin .Add (.blt .len (.cons (.var 3) .nil)) (.ix (.var 6) (.int 1))) (.var 2)))) (.cons (.raise 1 (.cons (.int 0) .nil)) .nil) .nil) t2_read_sound)
@[irreducible] def l1_read_sound : Sms := (.cons (.asg (.nm 6) (.call 2 (.cons (.var 5) .nil))) t3_read_sound)
@[irreducible] def t4_read_sound : Sms := (.cons (.ret (.blt .tuple (.cons (.var 3) .nil))) .nil)
@[irreducible] def t5_read_sound : Sms := (.cons (.ife (.cmp .NotEq (.blt .len (.cons (.var 3) .nil)) (.var 2)) (.cons (.raise 1 (.cons (.int 0) .nil)) .nil) .nil) t4_read_sound)
@[irreducible] def t6_read_sound : Sms := (.cons (.for_ (.nm 5) (.val (.sl (.var 1) (.yes (.int 2)) .no)) l1_read_sound) t5_read_sound)
@[irreducible] def t7_read_sound : Sms := (.cons (.par2 3 4 (.cons (.lst .nil) (.cons .non .nil))) t6_read_sound)
@[irreducible] def t8_read_sound : Sms := (.cons (.ife (.or (.cmp .Is (.var 2) .non) (.cmp .Gt (.var 2) (.int 20000))) (.cons (.raise 1 (.cons (.int 0) .nil)) .nil) .nil) t7_read_sound)
@[irreducible] def t9_read_sound : Sms := (.cons (.asg (.nm 2) (.ife (.and (.cmp .Gt (.blt .len (.cons (.var 1) .nil)) (.int 1)) (.cmp .Eq (.ix (.var 1) (.int 0)) (.str "sound"))) (.call 1 (.cons (.ix (.var 1) (.int 1)) .nil)) .non)) t8_read_sound)
@[irreducible] def t10_read_sound : Sms := (.cons (.asg (.nm 1) (.mth .split (.var 0) (.cons (.str " ") .nil))) t9_read_sound)
@[irreducible] def b_read_sound : Sms := (.cons (.ife (.not (.call 0 (.cons (.var 0) .nil))) (.cons (.raise 0 (.cons (.str "text") (.cons (.neg (.int 1)) .nil))) .nil) .nil) t10_read_sound)
-- read_sound: slots [(0, 'text'), (1, 'words'), (2, 'length'), (3, 'worths'), (4, 'before'), (5, 'word'), (6, 'stretch')]; calls ['_sound_text_stated', '_sound_figures', '_sound_stretch']; hot []; cells []
abbrev s__law_deck : Stmt := top 18
def n__law_deck : List Str := ["_law_script", "_law_state", "_law_great", "_law_k", "_law_cell"]
def p__law_deck : List Str := ["_law_script"]
@[irreducible] def t1__law_deck : Sms := (.cons (.ife (.cmp .GtE (.var 4) (.bin .Pow (.int 10) (.int 18))) (.cons (.expr (.mth .append (.var 2) (.cons (.var 4) .nil))) .nil) .nil) .nil)
@[irreducible] def t2__law_deck : Sms := (.cons (.asg (.nm 1) (.bin .Mod (.blt .int (.cons (.bin .Add (.bin .Add (.bin .Mult (.var 1) (.int 22699)) (.bin .Mod (.blt .int (.cons (.var 4) .nil)) (.int 1000133))) (.bin .Mult (.int 31) (.var 3))) .nil)) (.int 2147483323))) t1__law_deck)
@[irreducible] def l1__law_deck : Sms := (.cons (.asg (.nm 4) (.blt .int (.cons (.ix (.var 0) (.var 3)) .nil))) t2__law_deck)
@[irreducible] def t3__law_deck : Sms := (.cons (.ret (.lst (.cons (.var 1) (.cons (.var 2) (.cons (.int 0) .nil))))) .nil)
@[irreducible] def t4__law_deck : Sms := (.cons (.for_ (.nm 3) (.rng1 (.blt .len (.cons (.var 0) .nil))) l1__law_deck) t3__law_deck)
@[irreducible] def t5__law_deck : Sms := (.cons (.asg (.nm 2) (.lst .nil)) t4__law_deck)
@[irreducible] def b__law_deck : Sms := (.cons (.asg (.nm 1) (.int 27449)) t5__law_deck)
-- _law_deck: slots [(0, '_law_script'), (1, '_law_state'), (2, '_law_great'), (3, '_law_k'), (4, '_law_cell')]; calls []; hot []; cells []
abbrev s__law_take : Stmt := top 19
def n__law_take : List Str := ["_law_deck_here", "_law_many", "_law_row", "_law_told"]
def p__law_take : List Str := ["_law_deck_here", "_law_many"]
@[irreducible] def t1__law_take : Sms := (.cons (.ret (.var 3)) .nil)
@[irreducible] def t2__law_take : Sms := (.cons (.ife (.or (.cmp .Eq (.bin .Mod (.blt .int (.cons (.ix (.var 0) (.int 2)) .nil)) (.int 60)) (.int 0)) (.cmp .Eq (.ix (.var 2) (.int 0)) (.int 0))) (.cons (.expr (.mth .popAt (.var 2) (.cons (.int 0) .nil))) .nil) .nil) t1__law_take)
@[irreducible] def t3__law_take : Sms := (.cons (.sub (.var 0) (.int 2) (.bin .Add (.ix (.var 0) (.int 2)) (.int 1))) t2__law_take)
@[irreducible] def t4__law_take : Sms := (.cons (.sub (.var 2) (.int 0) (.bin .FloorDiv (.ix (.var 2) (.int 0)) (.var 1))) t3__law_take)
@[irreducible] def t5__law_take : Sms := (.cons (.ret (.bin .Mod (.blt .int (.cons (.bin .Add (.bin .FloorDiv (.ix (.var 0) (.int 0)) (.int 16384)) (.bin .Mult (.bin .Mod (.blt .int (.cons (.ix (.var 0) (.int 0)) .nil)) (.int 16384)) (.int 61))) .nil)) (.var 1))) .nil)
@[irreducible] def t6__law_take : Sms := (.cons (.sub (.var 0) (.int 0) (.bin .Mod (.blt .int (.cons (.bin .Add (.bin .Mult (.ix (.var 0) (.int 0)) (.int 27011)) (.int 9001)) .nil)) (.int 2147483269))) t5__law_take)
@[irreducible] def t7__law_take : Sms := (.cons (.ife (.cmp .NotEq (.var 2) (.lst .nil)) (.cons (.asg (.nm 3) (.bin .Mod (.blt .int (.cons (.ix (.var 2) (.int 0)) .nil)) (.var 1))) t4__law_take) .nil) t6__law_take)
@[irreducible] def b__law_take : Sms := (.cons (.asg (.nm 2) (.ix (.var 0) (.int 1))) t7__law_take)
-- _law_take: slots [(0, '_law_deck_here'), (1, '_law_many'), (2, '_law_row'), (3, '_law_told')]; calls []; hot []; cells []
abbrev s__law_pick : Stmt := top 20
def n__law_pick : List Str := ["_law_deck_here", "_law_row"]
def p__law_pick : List Str := ["_law_deck_here", "_law_row"]
@[irreducible] def b__law_pick : Sms := (.cons (.ret (.ix (.var 1) (.call 0 (.cons (.var 0) (.cons (.blt .len (.cons (.var 1) .nil)) .nil))))) .nil)
-- _law_pick: slots [(0, '_law_deck_here'), (1, '_law_row')]; calls ['_law_take']; hot []; cells []
abbrev s__law_same : Stmt := top 21
def n__law_same : List Str := ["_law_told", "_law_due", "_law_k"]
def p__law_same : List Str := ["_law_told", "_law_due"]
@[irreducible] def l1__law_same : Sms := (.cons (.ife (.not (.call 0 (.cons (.ix (.var 0) (.var 2)) (.cons (.ix (.var 1) (.var 2)) .nil)))) (.cons (.ret (.bl false)) .nil) .nil) .nil)
@[irreducible] def t1__law_same : Sms := (.cons (.ret (.bl true)) .nil)
@[irreducible] def t2__law_same : Sms := (.cons (.for_ (.nm 2) (.rng1 (.blt .len (.cons (.var 1) .nil))) l1__law_same) t1__law_same)
@[irreducible] def t3__law_same : Sms := (.cons (.ret (.and (.blt .isi (.cons (.var 0) (.cons (.ty "int") .nil))) (.and (.not (.blt .isi (.cons (.var 0) (.cons (.ty "bool") .nil)))) (.cmp .Eq (.var 0) (.var 1))))) .nil)
@[irreducible] def t4__law_same : Sms := (.cons (.ife (.blt .isi (.cons (.var 1) (.cons (.ty "str") .nil))) (.cons (.ret (.and (.blt .isi (.cons (.var 0) (.cons (.ty "str") .nil))) (.cmp .Eq (.var 0) (.var 1)))) .nil) .nil) t3__law_same)
@[irreducible] def b__law_same : Sms := (.cons (.ife (.blt .isi (.cons (.var 1) (.cons (.ty "tuple") .nil))) (.cons (.ife (.or (.not (.blt .isi (.cons (.var 0) (.cons (.ty "tuple") .nil)))) (.cmp .NotEq (.blt .len (.cons (.var 0) .nil)) (.blt .len (.cons (.var 1) .nil)))) (.cons (.ret (.bl false)) .nil) .nil) t2__law_same) .nil) t4__law_same)
-- _law_same: slots [(0, '_law_told'), (1, '_law_due'), (2, '_law_k')]; calls ['_law_same']; hot []; cells []
abbrev s__law_number : Stmt := top 22
def n__law_number : List Str := ["_law_word", "_law_most", "_law_sign"]
def p__law_number : List Str := ["_law_word", "_law_most"]
@[irreducible] def l1__law_number : Sms := (.cons (.ife (.cmp .NotIn (.var 2) (.str "0123456789")) (.cons (.ret .non) .nil) .nil) .nil)
@[irreducible] def t1__law_number : Sms := (.cons (.ret (.blt .int (.cons (.var 0) .nil))) .nil)
@[irreducible] def t2__law_number : Sms := (.cons (.ife (.cmp .Gt (.blt .int (.cons (.var 0) .nil)) (.var 1)) (.cons (.ret .non) .nil) .nil) t1__law_number)
@[irreducible] def t3__law_number : Sms := (.cons (.for_ (.nm 2) (.val (.var 0)) l1__law_number) t2__law_number)
@[irreducible] def b__law_number : Sms := (.cons (.ife (.or (.cmp .Eq (.var 0) (.str "")) (.or (.cmp .Gt (.blt .len (.cons (.var 0) .nil)) (.int 7)) (.and (.cmp .Eq (.ix (.var 0) (.int 0)) (.str "0")) (.cmp .NotEq (.var 0) (.str "0"))))) (.cons (.ret .non) .nil) .nil) t3__law_number)
-- _law_number: slots [(0, '_law_word'), (1, '_law_most'), (2, '_law_sign')]; calls []; hot []; cells []
abbrev s__law_sound_text : Stmt := top 23
def n__law_sound_text : List Str := ["_law_sound_here", "_law_words", "_law_first", "_law_k"]
def p__law_sound_text : List Str := ["_law_sound_here"]
@[irreducible] def t1__law_sound_text : Sms := (.cons (.asg (.nm 2) (.bin .Add (.var 3) (.int 1))) .nil)
@[irreducible] def l1__law_sound_text : Sms := (.cons (.ife (.or (.cmp .Eq (.bin .Add (.var 3) (.int 1)) (.blt .len (.cons (.var 0) .nil))) (.cmp .NotEq (.ix (.var 0) (.bin .Add (.var 3) (.int 1))) (.ix (.var 0) (.var 3)))) (.cons (.expr (.mth .append (.var 1) (.cons (.bin .Add (.bin .Add (.blt .str (.cons (.ix (.var 0) (.var 3)) .nil)) (.str "*")) (.blt .str (.cons (.bin .Sub (.bin .Add (.var 3) (.int 1)) (.var 2)) .nil))) .nil))) t1__law_sound_text) .nil) .nil)
@[irreducible] def t2__law_sound_text : Sms := (.cons (.ret (.mth .join (.str " ") (.cons (.var 1) .nil))) .nil)
@[irreducible] def t3__law_sound_text : Sms := (.cons (.for_ (.nm 3) (.rng1 (.blt .len (.cons (.var 0) .nil))) l1__law_sound_text) t2__law_sound_text)
@[irreducible] def t4__law_sound_text : Sms := (.cons (.asg (.nm 2) (.int 0)) t3__law_sound_text)
@[irreducible] def b__law_sound_text : Sms := (.cons (.asg (.nm 1) (.lst (.cons (.str "sound") (.cons (.blt .str (.cons (.blt .len (.cons (.var 0) .nil)) .nil)) .nil)))) t4__law_sound_text)
-- _law_sound_text: slots [(0, '_law_sound_here'), (1, '_law_words'), (2, '_law_first'), (3, '_law_k')]; calls []; hot []; cells []
abbrev s__law_read_sound : Stmt := top 24
def n__law_read_sound : List Str := ["_law_text", "_law_words", "_law_sound_here", "_law_word", "_law_halves", "_law_less", "_law_worth", "_law_size"]
def p__law_read_sound : List Str := ["_law_text"]
@[irreducible] def t1__law_read_sound : Sms := (.cons (.asg (.nm 2) (.bin .Add (.var 2) (.bin .Mult (.lst (.cons (.bin .Sub (.var 6) (.bin .Mult (.bin .Mult (.int 2) (.var 6)) (.var 5))) .nil)) (.var 7)))) .nil)
@[irreducible] def t2__law_read_sound : Sms := (.cons (.ife (.and (.cmp .NotEq (.var 2) (.lst .nil)) (.cmp .Eq (.ix (.var 2) (.neg (.int 1))) (.bin .Sub (.var 6) (.bin .Mult (.bin .Mult (.int 2) (.var 6)) (.var 5))))) (.cons (.ret .non) .nil) .nil) t1__law_read_sound)
@[irreducible] def t3__law_read_sound : Sms := (.cons (.ife (.or (.cmp .NotEq (.blt .len (.cons (.var 4) .nil)) (.int 2)) (.or (.cmp .Is (.var 6) .non) (.or (.cmp .Is (.var 7) .non) (.or (.cmp .Eq (.var 7) (.int 0)) (.or (.and (.cmp .Eq (.var 6) (.int 0)) (.cmp .Eq (.var 5) (.int 1))) (.cmp .Gt (.bin .Add (.blt .len (.cons (.var 2) .nil)) (.var 7)) (.int 20000))))))) (.cons (.ret .non) .nil) .nil) t2__law_read_sound)
@[irreducible] def t4__law_read_sound : Sms := (.cons (.asg (.nm 7) (.call 0 (.cons (.ix (.var 4) (.neg (.int 1))) (.cons (.int 20000) .nil)))) t3__law_read_sound)
@[irreducible] def t5__law_read_sound : Sms := (.cons (.asg (.nm 6) (.call 0 (.cons (.sl (.ix (.var 4) (.int 0)) (.yes (.var 5)) .no) (.cons (.int 1048575) .nil)))) t4__law_read_sound)
@[irreducible] def t6__law_read_sound : Sms := (.cons (.asg (.nm 5) (.blt .int (.cons (.cmp .Eq (.sl (.ix (.var 4) (.int 0)) .no (.yes (.int 1))) (.str "-")) .nil))) t5__law_read_sound)
@[irreducible] def l1__law_read_sound : Sms := (.cons (.asg (.nm 4) (.mth .split (.var 3) (.cons (.str "*") .nil))) t6__law_read_sound)
@[irreducible] def t7__law_read_sound : Sms := (.cons (.ret (.blt .tuple (.cons (.var 2) .nil))) .nil)
@[irreducible] def t8__law_read_sound : Sms := (.cons (.ife (.cmp .NotEq (.blt .len (.cons (.var 2) .nil)) (.blt .int (.cons (.ix (.var 1) (.int 1)) .nil))) (.cons (.ret .non) .nil) .nil) t7__law_read_sound)
@[irreducible] def t9__law_read_sound : Sms := (.cons (.for_ (.nm 3) (.val (.sl (.var 1) (.yes (.int 2)) .no)) l1__law_read_sound) t8__law_read_sound)
@[irreducible] def t10__law_read_sound : Sms := (.cons (.asg (.nm 2) (.lst .nil)) t9__law_read_sound)
@[irreducible] def t11__law_read_sound : Sms := (.cons (.ife (.or (.cmp .Lt (.blt .len (.cons (.var 1) .nil)) (.int 2)) (.or (.cmp .NotEq (.ix (.var 1) (.int 0)) (.str "sound")) (.cmp .Is (.call 0 (.cons (.ix (.var 1) (.int 1)) (.cons (.int 20000) .nil))) .non))) (.cons (.ret .non) .nil) .nil) t10__law_read_sound)
@[irreducible] def b__law_read_sound : Sms := (.cons (.asg (.nm 1) (.mth .split (.var 0) (.cons (.str " ") .nil))) t11__law_read_sound)
-- _law_read_sound: slots [(0, '_law_text'), (1, '_law_words'), (2, '_law_sound_here'), (3, '_law_word'), (4, '_law_halves'), (5, '_law_less'), (6, '_law_worth'), (7, '_law_size')]; calls ['_law_number']; hot []; cells []
abbrev s__law_bent_sound : Stmt := top 25
def n__law_bent_sound : List Str := ["_law_deck_here", "_law_text", "_law_at", "_law_sign", "_law_words", "_law_place", "_law_near", "_law_whole", "_law_halves", "_law_size", "_law_parted", "_law_made"]
def p__law_bent_sound : List Str := ["_law_deck_here", "_law_text"]
@[irreducible] def t1__law_bent_sound : Sms := (.cons (.ret (.mth .join (.str " ") (.cons (.bin .Add (.bin .Add (.sl (.var 4) .no (.yes (.var 5))) (.lst (.cons (.var 6) .nil))) (.sl (.var 4) (.yes (.bin .Add (.var 5) (.int 1))) .no)) .nil))) .nil)
@[irreducible] def t2__law_bent_sound : Sms := (.cons (.asg (.nm 6) (.call 1 (.cons (.var 0) (.cons (.lst (.cons (.var 10) (.cons (.var 10) (.cons (.bin .Add (.str "0") (.ix (.var 4) (.var 5))) (.cons (.bin .Add (.bin .Add (.ix (.var 8) (.int 0)) (.str "*0")) (.ix (.var 8) (.int 1))) (.cons (.bin .Add (.bin .Add (.bin .Add (.ix (.var 4) (.var 5)) (.str " ")) (.ix (.var 8) (.int 0))) (.str "*0")) (.cons (.bin .Add (.str "-") (.ix (.var 4) (.var 5))) .nil))))))) .nil)))) t1__law_bent_sound)
@[irreducible] def t3__law_bent_sound : Sms := (.cons (.ret (.call 1 (.cons (.var 0) (.cons (.bin .Add (.var 11) (.lst (.cons (.mth .join (.str " ") (.cons (.bin .Add (.sl (.var 4) .no (.yes (.var 5))) (.sl (.var 4) (.yes (.bin .Add (.var 5) (.int 1))) .no)) .nil)) (.cons (.var 7) (.cons (.mth .join (.str " ") (.cons (.bin .Add (.bin .Add (.sl (.var 4) .no (.yes (.var 5))) (.lst (.cons (.var 6) .nil))) (.sl (.var 4) (.yes (.bin .Add (.var 5) (.int 1))) .no)) .nil)) .nil))))) .nil)))) .nil)
@[irreducible] def t4__law_bent_sound : Sms := (.cons (.asg (.nm 11) (.lst (.cons (.bin .Add (.bin .Add (.sl (.var 1) .no (.yes (.var 2))) (.var 3)) (.sl (.var 1) (.yes (.var 2)) .no)) (.cons (.bin .Add (.bin .Add (.sl (.var 1) .no (.yes (.var 2))) (.var 3)) (.sl (.var 1) (.yes (.bin .Add (.var 2) (.int 1))) .no)) (.cons (.bin .Add (.sl (.var 1) .no (.yes (.var 2))) (.sl (.var 1) (.yes (.bin .Add (.var 2) (.int 1))) .no)) (.cons (.mth .join (.str " ") (.cons (.bin .Add (.sl (.var 4) .no (.yes (.bin .Add (.var 5) (.int 1)))) (.sl (.var 4) (.yes (.var 5)) .no)) .nil)) .nil)))))) t3__law_bent_sound)
@[irreducible] def t5__law_bent_sound : Sms := (.cons (.ife (.and (.cmp .Eq (.blt .len (.cons (.var 8) .nil)) (.int 2)) (.and (.cmp .IsNot (.var 9) .non) (.cmp .Eq (.call 0 (.cons (.var 0) (.cons (.int 2) .nil))) (.int 0)))) (.cons (.asg (.nm 10) (.bin .Add (.bin .Add (.bin .Add (.bin .Add (.ix (.var 8) (.int 0)) (.str "*1 ")) (.ix (.var 8) (.int 0))) (.str "*")) (.blt .str (.cons (.bin .Sub (.var 9) (.int 1)) .nil)))) t2__law_bent_sound) .nil) t4__law_bent_sound)
@[irreducible] def t6__law_bent_sound : Sms := (.cons (.asg (.nm 9) (.call 2 (.cons (.ix (.var 8) (.neg (.int 1))) (.cons (.int 20000) .nil)))) t5__law_bent_sound)
@[irreducible] def t7__law_bent_sound : Sms := (.cons (.asg (.nm 8) (.mth .split (.ix (.var 4) (.var 5)) (.cons (.str "*") .nil))) t6__law_bent_sound)
@[irreducible] def t8__law_bent_sound : Sms := (.cons (.asg (.nm 7) (.call 1 (.cons (.var 0) (.cons (.lst (.cons (.str "sound 20000 5*20000") (.cons (.str "sound 20001 5*20001") (.cons (.str "sound 0") (.cons (.str "sound 1 1048576*1") (.cons (.str "sound 1 -1048575*1") (.cons (.str "sound") (.cons (.str "") (.cons (.bin .Add (.var 1) (.str "\n")) .nil))))))))) .nil)))) t7__law_bent_sound)
@[irreducible] def t9__law_bent_sound : Sms := (.cons (.asg (.nm 6) (.call 1 (.cons (.var 0) (.cons (.lst (.cons (.str "0*1") (.cons (.str "-0*1") (.cons (.str "0*0") (.cons (.str "00*1") (.cons (.str "1*01") (.cons (.str "5*2") (.cons (.str "0") (.cons (.str "1") (.cons (.str "2") (.cons (.str "-1048576*1") (.cons (.str "1048575*1") (.cons (.str "1*1*1") (.cons (.str "*1") (.cons (.str "1*") .nil))))))))))))))) .nil)))) t8__law_bent_sound)
@[irreducible] def t10__law_bent_sound : Sms := (.cons (.asg (.nm 5) (.call 0 (.cons (.var 0) (.cons (.blt .len (.cons (.var 4) .nil)) .nil)))) t9__law_bent_sound)
@[irreducible] def t11__law_bent_sound : Sms := (.cons (.asg (.nm 4) (.mth .split (.var 1) (.cons (.str " ") .nil))) t10__law_bent_sound)
@[irreducible] def t12__law_bent_sound : Sms := (.cons (.asg (.nm 3) (.call 1 (.cons (.var 0) (.cons (.lst (.cons (.str "0") (.cons (.str "1") (.cons (.str "9") (.cons (.str "-") (.cons (.str "*") (.cons (.str " ") (.cons (.str "+") (.cons (.str "\n") (.cons (.str "s") .nil)))))))))) .nil)))) t11__law_bent_sound)
@[irreducible] def b__law_bent_sound : Sms := (.cons (.asg (.nm 2) (.call 0 (.cons (.var 0) (.cons (.bin .Add (.blt .len (.cons (.var 1) .nil)) (.int 1)) .nil)))) t12__law_bent_sound)
-- _law_bent_sound: slots [(0, '_law_deck_here'), (1, '_law_text'), (2, '_law_at'), (3, '_law_sign'), (4, '_law_words'), (5, '_law_place'), (6, '_law_near'), (7, '_law_whole'), (8, '_law_halves'), (9, '_law_size'), (10, '_law_parted'), (11, '_law_made')]; calls ['_law_take', '_law_pick', '_law_number']; hot []; cells []
abbrev s__law_heard : Stmt := top 26
def n__law_heard : List Str := ["_law_text", "e"]
def p__law_heard : List Str := ["_law_text"]
@[irreducible] def b__law_heard : Sms := (.cons (.tryAs (.cons (.ret (.call 0 (.cons (.var 0) .nil))) .nil) 1 1 (.lst (.cons (.xf (.var 1) "row") (.cons (.and (.xi (.var 1) "UseError") (.and (.xi (.var 1) "SoundError") (.xi (.var 1) "ValueError"))) .nil)))) .nil)
-- _law_heard: slots [(0, '_law_text'), (1, 'e')]; calls ['read_sound']; hot []; cells []
abbrev s__law_right : Stmt := top 27
def n__law_right : List Str := ["_law_text", "_law_due", "_law_told"]
def p__law_right : List Str := ["_law_text"]
@[irreducible] def t1__law_right : Sms := (.cons (.ret (.and (.call 2 (.cons (.var 2) (.cons (.var 1) .nil))) (.or (.cmp .Gt (.blt .len (.cons (.var 1) .nil)) (.int 4000)) (.call 2 (.cons (.call 3 (.cons (.var 1) .nil)) (.cons (.var 0) .nil)))))) .nil)
@[irreducible] def t2__law_right : Sms := (.cons (.ife (.cmp .Is (.var 1) .non) (.cons (.ret (.and (.blt .isi (.cons (.var 2) (.cons (.ty "list") .nil))) (.and (.call 2 (.cons (.ix (.var 2) (.int 0)) (.cons (.int 0) .nil))) (.ix (.var 2) (.int 1))))) .nil) .nil) t1__law_right)
@[irreducible] def t3__law_right : Sms := (.cons (.asg (.nm 2) (.call 1 (.cons (.var 0) .nil))) t2__law_right)
@[irreducible] def b__law_right : Sms := (.cons (.asg (.nm 1) (.call 0 (.cons (.var 0) .nil))) t3__law_right)
-- _law_right: slots [(0, '_law_text'), (1, '_law_due'), (2, '_law_told')]; calls ['_law_read_sound', '_law_heard', '_law_same', 'show_sound']; hot []; cells []
abbrev s__law_refuses : Stmt := top 28
def n__law_refuses : List Str := ["_law_thing", "_law_shown", "e"]
def p__law_refuses : List Str := ["_law_thing", "_law_shown"]
@[irreducible] def t1__law_refuses : Sms := (.cons (.ret (.bl false)) .nil)
@[irreducible] def b__law_refuses : Sms := (.cons (.tryAs (.cons (.ife (.var 1) (.cons (.expr (.call 0 (.cons (.var 0) .nil))) .nil) (.cons (.expr (.call 1 (.cons (.var 0) .nil))) .nil)) .nil) 0 2 (.call 0 (.cons (.tup (.cons (.xf (.var 2) "word") (.cons (.xf (.var 2) "at") .nil))) (.cons (.tup (.cons (.ix (.lst (.cons (.str "text") (.cons (.str "sound") .nil))) (.blt .int (.cons (.var 1) .nil))) (.cons (.neg (.int 1)) .nil))) .nil)))) t1__law_refuses)
-- _law_refuses: slots [(0, '_law_thing'), (1, '_law_shown'), (2, 'e')]; calls ['show_sound', 'read_sound']; hot ['_law_same']; cells []
abbrev s__law_sound : Stmt := top 29
def n__law_sound : List Str := ["_law_deck_here", "_law_many", "_law_sound_here", "_law_worth", "_law_k"]
def p__law_sound : List Str := ["_law_deck_here"]
@[irreducible] def t1__law_sound : Sms := (.cons (.expr (.mth .append (.var 2) (.cons (.var 3) .nil))) .nil)
@[irreducible] def l1__law_sound : Sms := (.cons (.ife (.cmp .Eq (.call 0 (.cons (.var 0) (.cons (.int 3) .nil))) (.int 0)) (.cons (.asg (.nm 3) (.call 1 (.cons (.var 0) (.cons (.lst (.cons (.int 0) (.cons (.int 1048575) (.cons (.neg (.int 1048575)) (.cons (.neg (.var 3)) (.cons (.bin .Sub (.call 0 (.cons (.var 0) (.cons (.int 21) .nil))) (.int 10)) .nil)))))) .nil)))) .nil) .nil) t1__law_sound)
@[irreducible] def t2__law_sound : Sms := (.cons (.ret (.blt .tuple (.cons (.var 2) .nil))) .nil)
@[irreducible] def t3__law_sound : Sms := (.cons (.for_ (.nm 4) (.rng1 (.var 1)) l1__law_sound) t2__law_sound)
@[irreducible] def t4__law_sound : Sms := (.cons (.asg (.nm 3) (.bin .Sub (.call 0 (.cons (.var 0) (.cons (.int 21) .nil))) (.int 10))) t3__law_sound)
@[irreducible] def t5__law_sound : Sms := (.cons (.asg (.nm 2) (.lst .nil)) t4__law_sound)
@[irreducible] def t6__law_sound : Sms := (.cons (.ife (.cmp .Eq (.call 0 (.cons (.var 0) (.cons (.int 32) .nil))) (.int 0)) (.cons (.asg (.nm 1) (.int 4000)) .nil) .nil) t5__law_sound)
@[irreducible] def b__law_sound : Sms := (.cons (.asg (.nm 1) (.ix (.lst (.cons (.call 0 (.cons (.var 0) (.cons (.int 12) .nil))) (.cons (.call 0 (.cons (.var 0) (.cons (.int 40) .nil))) (.cons (.call 0 (.cons (.var 0) (.cons (.int 3) .nil))) (.cons (.int 12) .nil))))) (.call 0 (.cons (.var 0) (.cons (.int 4) .nil))))) t6__law_sound)
-- _law_sound: slots [(0, '_law_deck_here'), (1, '_law_many'), (2, '_law_sound_here'), (3, '_law_worth'), (4, '_law_k')]; calls ['_law_take', '_law_pick']; hot []; cells []
abbrev s__law_unlike : Stmt := top 30
def n__law_unlike : List Str := ["_law_deck_here", "_law_sound_here", "_law_text", "_law_at", "_law_worth", "_law_other", "_law_told"]
def p__law_unlike : List Str := ["_law_deck_here", "_law_sound_here", "_law_text"]
@[irreducible] def t1__law_unlike : Sms := (.cons (.ret (.call 5 (.cons (.sl (.var 2) .no (.yes (.call 0 (.cons (.var 0) (.cons (.blt .len (.cons (.var 2) .nil)) .nil))))) .nil))) .nil)
@[irreducible] def t2__law_unlike : Sms := (.cons (.ife (.or (.not (.call 3 (.cons (.var 6) (.cons (.call 4 (.cons (.var 5) .nil)) .nil)))) (.cmp .Eq (.var 6) (.var 2))) (.cons (.ret (.bl false)) .nil) .nil) t1__law_unlike)
@[irreducible] def t3__law_unlike : Sms := (.cons (.asg (.nm 6) (.call 2 (.cons (.var 5) .nil))) t2__law_unlike)
@[irreducible] def t4__law_unlike : Sms := (.cons (.asg (.nm 5) (.bin .Add (.bin .Add (.sl (.var 1) .no (.yes (.var 3))) (.tup (.cons (.var 4) .nil))) (.sl (.var 1) (.yes (.bin .Add (.var 3) (.int 1))) .no))) t3__law_unlike)
@[irreducible] def t5__law_unlike : Sms := (.cons (.ife (.cmp .Eq (.sl (.var 1) (.yes (.var 3)) (.yes (.bin .Add (.var 3) (.int 1)))) (.tup (.cons (.var 4) .nil))) (.cons (.asg (.nm 4) (.int 8)) .nil) .nil) t4__law_unlike)
@[irreducible] def t6__law_unlike : Sms := (.cons (.asg (.nm 4) (.call 1 (.cons (.var 0) (.cons (.lst (.cons (.int 7) (.cons (.neg (.int 7)) (.cons (.int 0) (.cons (.int 1048575) .nil))))) .nil)))) t5__law_unlike)
@[irreducible] def b__law_unlike : Sms := (.cons (.asg (.nm 3) (.call 0 (.cons (.var 0) (.cons (.blt .max2 (.cons (.int 1) (.cons (.blt .len (.cons (.var 1) .nil)) .nil))) .nil)))) t6__law_unlike)
-- _law_unlike: slots [(0, '_law_deck_here'), (1, '_law_sound_here'), (2, '_law_text'), (3, '_law_at'), (4, '_law_worth'), (5, '_law_other'), (6, '_law_told')]; calls ['_law_take', '_law_pick', 'show_sound', '_law_same', '_law_sound_text', '_law_right']; hot []; cells []
abbrev s_law : Stmt := top 31
def n_law : List Str := ["_law_script", "_law_deck_here", "_law_sound_here", "_law_text", "_law_short", "_law_k", "_law_bad"]
def p_law : List Str := ["_law_script"]
@[irreducible] def l1_law : Sms := (.cons (.ife (.not (.call 6 (.cons (.call 7 (.cons (.var 1) (.cons (.var 4) .nil))) .nil))) (.cons (.ret (.bl false)) .nil) .nil) .nil)
@[irreducible] def t1_law : Sms := (.cons (.ret (.call 3 (.cons (.call 5 (.cons (.var 2) .nil)) (.cons (.var 3) .nil)))) .nil)
@[irreducible] def t2_law : Sms := (.cons (.ife (.or (.not (.call 10 (.cons (.var 6) (.cons (.bl true) .nil)))) (.not (.call 10 (.cons (.call 9 (.cons (.var 1) (.cons (.lst (.cons .non (.cons (.int 0) (.cons (.bl true) (.cons (.tup (.cons (.str "sound") (.cons (.str "0") .nil))) (.cons (.lst (.cons (.str "sound 0") .nil)) (.cons (.tup .nil) .nil))))))) .nil))) (.cons (.bl false) .nil))))) (.cons (.ret (.bl false)) .nil) .nil) t1_law)
@[irreducible] def t3_law : Sms := (.cons (.asg (.nm 6) (.call 9 (.cons (.var 1) (.cons (.lst (.cons .non (.cons (.lst (.cons (.int 1) .nil)) (.cons (.tup (.cons (.bl true) .nil)) (.cons (.tup (.cons (.int 1048576) .nil)) (.cons (.tup (.cons (.int 0) (.cons (.neg (.int 1048576)) .nil))) (.cons (.tup (.cons (.tup (.cons (.int 1) .nil)) .nil)) (.cons (.int 5) (.cons (.str "sound 0") (.cons (.tup (.cons (.int 1) (.cons .non .nil))) (.cons (.tup (.cons (.bl false) (.cons (.int 0) .nil))) .nil))))))))))) .nil)))) t2_law)
@[irreducible] def t4_law : Sms := (.cons (.ife (.or (.not (.call 8 (.cons (.var 1) (.cons (.var 2) (.cons (.var 3) .nil))))) (.not (.call 6 (.cons (.var 4) .nil)))) (.cons (.ret (.bl false)) .nil) .nil) t3_law)
@[irreducible] def t5_law : Sms := (.cons (.for_ (.nm 5) (.rng1 (.int 10)) l1_law) t4_law)
@[irreducible] def t6_law : Sms := (.cons (.asg (.nm 4) (.call 2 (.cons (.sl (.var 2) .no (.yes (.int 60))) .nil))) t5_law)
@[irreducible] def t7_law : Sms := (.cons (.ife (.or (.not (.call 3 (.cons (.call 5 (.cons (.var 2) .nil)) (.cons (.var 3) .nil)))) (.not (.call 3 (.cons (.call 4 (.cons (.var 3) .nil)) (.cons (.var 2) .nil))))) (.cons (.ret (.bl false)) .nil) .nil) t6_law)
@[irreducible] def t8_law : Sms := (.cons (.asg (.nm 3) (.call 2 (.cons (.var 2) .nil))) t7_law)
@[irreducible] def t9_law : Sms := (.cons (.asg (.nm 2) (.call 1 (.cons (.var 1) .nil))) t8_law)
@[irreducible] def b_law : Sms := (.cons (.asg (.nm 1) (.call 0 (.cons (.var 0) .nil))) t9_law)
-- law: slots [(0, '_law_script'), (1, '_law_deck_here'), (2, '_law_sound_here'), (3, '_law_text'), (4, '_law_short'), (5, '_law_k'), (6, '_law_bad')]; calls ['_law_deck', '_law_sound', '_law_sound_text', '_law_same', 'read_sound', 'show_sound', '_law_right', '_law_bent_sound', '_law_unlike', '_law_pick', '_law_refuses']; hot []; cells []
def kins : Kins := [(("BadText", "SoundError"), true), (("BadText", "UseError"), true), (("BadText", "ValueError"), true)]
def kin : Nat → Str → Option Bool := kinOf xcs kins

theorem c_is_integer : chkSs n_is_integer (defScope s_is_integer) (tabOf (([] : List Str).map fun (x : Str) => (x, fun _ _ _ _ => False)) [("TOP", .int 1048575)] xcs sub kin (([] : List Str).map fun (x : Str) => (x, fun _ _ _ _ => False))) false b_is_integer (defBody s_is_integer) = true := by decide +kernel
theorem c_is_worth : chkSs n_is_worth (defScope s_is_worth) (tabOf ((["is_integer"] : List Str).map fun (x : Str) => (x, fun _ _ _ _ => False)) [("TOP", .int 1048575)] xcs sub kin (([] : List Str).map fun (x : Str) => (x, fun _ _ _ _ => False))) false b_is_worth (defBody s_is_worth) = true := by decide +kernel
theorem c_is_sound : chkSs n_is_sound (defScope s_is_sound) (tabOf ((["is_worth"] : List Str).map fun (x : Str) => (x, fun _ _ _ _ => False)) [("TOP", .int 1048575)] xcs sub kin (([] : List Str).map fun (x : Str) => (x, fun _ _ _ _ => False))) false b_is_sound (defBody s_is_sound) = true := by decide +kernel
theorem c_show_sound : chkSs n_show_sound (defScope s_show_sound) (tabOf ((["is_sound"] : List Str).map fun (x : Str) => (x, fun _ _ _ _ => False)) [("TOP", .int 1048575)] xcs sub kin (([] : List Str).map fun (x : Str) => (x, fun _ _ _ _ => False))) false b_show_sound (defBody s_show_sound) = true := by decide +kernel
theorem c__sound_figures : chkSs n__sound_figures (defScope s__sound_figures) (tabOf (([] : List Str).map fun (x : Str) => (x, fun _ _ _ _ => False)) [("TOP", .int 1048575)] xcs sub kin (([] : List Str).map fun (x : Str) => (x, fun _ _ _ _ => False))) false b__sound_figures (defBody s__sound_figures) = true := by decide +kernel
theorem c__sound_worth : chkSs n__sound_worth (defScope s__sound_worth) (tabOf ((["_sound_figures", "is_worth"] : List Str).map fun (x : Str) => (x, fun _ _ _ _ => False)) [("TOP", .int 1048575)] xcs sub kin (([] : List Str).map fun (x : Str) => (x, fun _ _ _ _ => False))) false b__sound_worth (defBody s__sound_worth) = true := by decide +kernel
theorem c__sound_stretch : chkSs n__sound_stretch (defScope s__sound_stretch) (tabOf ((["_sound_figures", "_sound_worth"] : List Str).map fun (x : Str) => (x, fun _ _ _ _ => False)) [("TOP", .int 1048575)] xcs sub kin (([] : List Str).map fun (x : Str) => (x, fun _ _ _ _ => False))) false b__sound_stretch (defBody s__sound_stretch) = true := by decide +kernel
theorem c__sound_text_stated : chkSs n__sound_text_stated (defScope s__sound_text_stated) (tabOf (([] : List Str).map fun (x : Str) => (x, fun _ _ _ _ => False)) [("TOP", .int 1048575)] xcs sub kin (([] : List Str).map fun (x : Str) => (x, fun _ _ _ _ => False))) false b__sound_text_stated (defBody s__sound_text_stated) = true := by decide +kernel
theorem c_read_sound : chkSs n_read_sound (defScope s_read_sound) (tabOf ((["_sound_text_stated", "_sound_figures", "_sound_stretch"] : List Str).map fun (x : Str) => (x, fun _ _ _ _ => False)) [("TOP", .int 1048575)] xcs sub kin (([] : List Str).map fun (x : Str) => (x, fun _ _ _ _ => False))) false b_read_sound (defBody s_read_sound) = true := by decide +kernel
theorem c__law_deck : chkSs n__law_deck (defScope s__law_deck) (tabOf (([] : List Str).map fun (x : Str) => (x, fun _ _ _ _ => False)) [("TOP", .int 1048575)] xcs sub kin (([] : List Str).map fun (x : Str) => (x, fun _ _ _ _ => False))) false b__law_deck (defBody s__law_deck) = true := by decide +kernel
theorem c__law_take : chkSs n__law_take (defScope s__law_take) (tabOf (([] : List Str).map fun (x : Str) => (x, fun _ _ _ _ => False)) [("TOP", .int 1048575)] xcs sub kin (([] : List Str).map fun (x : Str) => (x, fun _ _ _ _ => False))) false b__law_take (defBody s__law_take) = true := by decide +kernel
theorem c__law_pick : chkSs n__law_pick (defScope s__law_pick) (tabOf ((["_law_take"] : List Str).map fun (x : Str) => (x, fun _ _ _ _ => False)) [("TOP", .int 1048575)] xcs sub kin (([] : List Str).map fun (x : Str) => (x, fun _ _ _ _ => False))) false b__law_pick (defBody s__law_pick) = true := by decide +kernel
theorem c__law_same : chkSs n__law_same (defScope s__law_same) (tabOf ((["_law_same"] : List Str).map fun (x : Str) => (x, fun _ _ _ _ => False)) [("TOP", .int 1048575)] xcs sub kin (([] : List Str).map fun (x : Str) => (x, fun _ _ _ _ => False))) false b__law_same (defBody s__law_same) = true := by decide +kernel
theorem c__law_number : chkSs n__law_number (defScope s__law_number) (tabOf (([] : List Str).map fun (x : Str) => (x, fun _ _ _ _ => False)) [("TOP", .int 1048575)] xcs sub kin (([] : List Str).map fun (x : Str) => (x, fun _ _ _ _ => False))) false b__law_number (defBody s__law_number) = true := by decide +kernel
theorem c__law_sound_text : chkSs n__law_sound_text (defScope s__law_sound_text) (tabOf (([] : List Str).map fun (x : Str) => (x, fun _ _ _ _ => False)) [("TOP", .int 1048575)] xcs sub kin (([] : List Str).map fun (x : Str) => (x, fun _ _ _ _ => False))) false b__law_sound_text (defBody s__law_sound_text) = true := by decide +kernel
theorem c__law_read_sound : chkSs n__law_read_sound (defScope s__law_read_sound) (tabOf ((["_law_number"] : List Str).map fun (x : Str) => (x, fun _ _ _ _ => False)) [("TOP", .int 1048575)] xcs sub kin (([] : List Str).map fun (x : Str) => (x, fun _ _ _ _ => False))) false b__law_read_sound (defBody s__law_read_sound) = true := by decide +kernel
theorem c__law_bent_sound : chkSs n__law_bent_sound (defScope s__law_bent_sound) (tabOf ((["_law_take", "_law_pick", "_law_number"] : List Str).map fun (x : Str) => (x, fun _ _ _ _ => False)) [("TOP", .int 1048575)] xcs sub kin (([] : List Str).map fun (x : Str) => (x, fun _ _ _ _ => False))) false b__law_bent_sound (defBody s__law_bent_sound) = true := by decide +kernel
theorem c__law_heard : chkSs n__law_heard (defScope s__law_heard) (tabOf ((["read_sound"] : List Str).map fun (x : Str) => (x, fun _ _ _ _ => False)) [("TOP", .int 1048575)] xcs sub kin (([] : List Str).map fun (x : Str) => (x, fun _ _ _ _ => False))) false b__law_heard (defBody s__law_heard) = true := by decide +kernel
theorem c__law_right : chkSs n__law_right (defScope s__law_right) (tabOf ((["_law_read_sound", "_law_heard", "_law_same", "show_sound"] : List Str).map fun (x : Str) => (x, fun _ _ _ _ => False)) [("TOP", .int 1048575)] xcs sub kin (([] : List Str).map fun (x : Str) => (x, fun _ _ _ _ => False))) false b__law_right (defBody s__law_right) = true := by decide +kernel
theorem c__law_refuses : chkSs n__law_refuses (defScope s__law_refuses) (tabOf ((["show_sound", "read_sound"] : List Str).map fun (x : Str) => (x, fun _ _ _ _ => False)) [("TOP", .int 1048575)] xcs sub kin ((["_law_same"] : List Str).map fun (x : Str) => (x, fun _ _ _ _ => False))) false b__law_refuses (defBody s__law_refuses) = true := by decide +kernel
theorem c__law_sound : chkSs n__law_sound (defScope s__law_sound) (tabOf ((["_law_take", "_law_pick"] : List Str).map fun (x : Str) => (x, fun _ _ _ _ => False)) [("TOP", .int 1048575)] xcs sub kin (([] : List Str).map fun (x : Str) => (x, fun _ _ _ _ => False))) false b__law_sound (defBody s__law_sound) = true := by decide +kernel
theorem c__law_unlike : chkSs n__law_unlike (defScope s__law_unlike) (tabOf ((["_law_take", "_law_pick", "show_sound", "_law_same", "_law_sound_text", "_law_right"] : List Str).map fun (x : Str) => (x, fun _ _ _ _ => False)) [("TOP", .int 1048575)] xcs sub kin (([] : List Str).map fun (x : Str) => (x, fun _ _ _ _ => False))) false b__law_unlike (defBody s__law_unlike) = true := by decide +kernel
theorem c_law : chkSs n_law (defScope s_law) (tabOf ((["_law_deck", "_law_sound", "_law_sound_text", "_law_same", "read_sound", "show_sound", "_law_right", "_law_bent_sound", "_law_unlike", "_law_pick", "_law_refuses"] : List Str).map fun (x : Str) => (x, fun _ _ _ _ => False)) [("TOP", .int 1048575)] xcs sub kin (([] : List Str).map fun (x : Str) => (x, fun _ _ _ _ => False))) false b_law (defBody s_law) = true := by decide +kernel
theorem ch__law_same : chkSs n__law_same (defScope s__law_same) (tabOf ((["_law_same"] : List Str).map fun (x : Str) => (x, fun _ _ _ _ => False)) [("TOP", .int 1048575)] xcs sub kin [] true) false b__law_same (defBody s__law_same) = true := by decide +kernel
end K81
set_option Elab.async false
set_option linter.all false
set_option autoImplicit false
set_option maxRecDepth 100000
set_option maxHeartbeats 4000000
/-! A81: the plain law: texts of sounds, shown and read. -/
namespace K81
open PySem PySem.Spec L2 UL
def dig (c : Nat) : Bool := decide (48 ≤ c) && decide (c ≤ 57)
def figs (l : List Nat) : Option Nat := if l = [] ∨ 7 < l.length ∨ l.all dig = false then none else if l.head? = some 48 ∧ l ≠ [48] then none else some (NumText.digitsVal l)
def negP (r : List Nat) : Option Int := match figs r with
  | some n => if n = 0 ∨ 1048575 < n then none else some (-(n : Int))
  | none => none
def posP (l : List Nat) : Option Int := match figs l with
  | some n => if 1048575 < n then none else some (n : Int)
  | none => none
def worthP (l : List Nat) : Option Int := if l.head? = some 45 then negP l.tail else posP l
def pairP : List (List Nat) → Option (Int × Nat)
  | [a, b] => (match worthP a, figs b with
    | some w, some m => if m = 0 then none else some (w, m)
    | _, _ => none)
  | _ => none
def stretchP (l : List Nat) : Option (Int × Nat) := pairP (TL.spl [42] 0 [] l)
def goP (n : Nat) : List (List Nat) → List Int → Option Int → Option (List Int)
  | [], acc, _ => if acc.length = n then some acc else none
  | w :: ws, acc, bef => match stretchP w with
    | none => none
    | some (x, m) => if some x = bef ∨ n < acc.length + m then none else goP n ws (acc ++ List.replicate m x) (some x)
def sndL : List Nat := TL.tl "sound"
def wordsP : List (List Nat) → Option (List Int)
  | w0 :: w1 :: ws => if w0 = sndL then (match figs w1 with
      | some n => if 20000 < n then none else goP n ws [] none
      | none => none) else none
  | _ => none
def readP (l : List Nat) : Option (List Int) := wordsP (TL.spl [32] 0 [] l)
def worthL (i : Int) : List Nat := if i < 0 then 45 :: TL.numL i.natAbs else TL.numL i.natAbs
def runs (w : Int) : Nat → List Int → List (Int × Nat)
  | m, [] => [(w, m)]
  | m, x :: r => if x = w then runs w (m + 1) r else (w, m) :: runs x 1 r
def sruns : List Int → List (Int × Nat)
  | [] => []
  | x :: r => runs x 1 r
def enc (p : Int × Nat) : List Nat := worthL p.1 ++ 42 :: TL.numL p.2
def showW (s : List Int) : List (List Nat) := sndL :: TL.numL s.length :: (sruns s).map enc
def showL (s : List Int) : List Nat := TL.joinL [32] (showW s)
def Wd1 (s : List Int) : Prop := ∀ x ∈ s, -1048575 ≤ x ∧ x ≤ 1048575
/-! ### figures -/
theorem dig_iff {l : List Nat} : l.all dig = true ↔ NumText.AllDigits l := by
  unfold NumText.AllDigits
  rw [List.all_eq_true]
  simp only [dig, Bool.and_eq_true, decide_eq_true_eq]
theorem numL_head (n : Nat) : n ≠ 0 → (TL.numL n).head? ≠ some 48 := by
  induction n using Nat.strongRecOn with
  | _ n ih =>
    intro h0
    by_cases h : n < 10
    · rw [TL.numL_lt h]
      simp only [List.head?_cons, ne_eq, Option.some.injEq]
      omega
    · rw [TL.numL_step (by omega)]
      have z := ih (n / 10) (by omega) (by omega)
      have ne := TL.numL_ne (n / 10)
      cases e : TL.numL (n / 10) with
      | nil => exact absurd e ne
      | cons c r => rw [e] at z; simpa using z
theorem figs_num {n : Nat} (h : n < 10 ^ 7) : figs (TL.numL n) = some n := by
  unfold figs
  have h1 := TL.numL_len (k := 7) (by decide) h
  rw [if_neg, if_neg, TL.numL_val]
  · rintro ⟨h2, h3⟩
    by_cases z : n = 0
    · subst z; exact h3 (TL.numL_lt (by decide))
    · exact numL_head n z h2
  · rintro (h2 | h2 | h2)
    · exact TL.numL_ne n h2
    · omega
    · rw [dig_iff.mpr (TL.numL_digits n)] at h2; cases h2
theorem val_snoc (l : List Nat) (c : Nat) : NumText.digitsVal (l ++ [c]) = NumText.digitsVal l * 10 + (c - 48) := by
  unfold NumText.digitsVal
  rw [List.foldl_append]
  rfl
theorem num_val : ∀ (k : Nat) (l : List Nat), l.length = k → NumText.AllDigits l → l ≠ [] → ¬ (l.head? = some 48 ∧ l ≠ [48]) → TL.numL (NumText.digitsVal l) = l := by
  intro k
  induction k with
  | zero => intro l hl _ hn _; exact absurd (List.length_eq_zero_iff.mp hl) hn
  | succ k ih =>
    intro l hl hd hn hz
    obtain ⟨r, c, rfl⟩ : ∃ r c, l = r ++ [c] := ⟨l.dropLast, l.getLast hn, (List.dropLast_concat_getLast hn).symm⟩
    have hc := hd c (by simp)
    rw [val_snoc]
    by_cases hr : r = []
    · subst hr
      show TL.numL (0 * 10 + (c - 48)) = [c]
      rw [TL.numL_lt (by omega)]
      congr 1
      omega
    · have hdr : NumText.AllDigits r := fun d hd' => hd d (by simp [hd'])
      have hhd : (r ++ [c]).head? = r.head? := by
        cases r with
        | nil => exact absurd rfl hr
        | cons => rfl
      have hzr : ¬ (r.head? = some 48 ∧ r ≠ [48]) := fun z => hz ⟨by rw [hhd]; exact z.1, fun e => by
        have := congrArg List.length e
        simp only [List.length_append, List.length_cons, List.length_nil] at this
        exact hr (List.length_eq_zero_iff.mp (by omega))⟩
      have e := ih r (by simp only [List.length_append, List.length_cons, List.length_nil] at hl; omega) hdr hr hzr
      have pos : NumText.digitsVal r ≠ 0 := fun z => by
        rw [z, TL.numL_lt (by decide)] at e
        refine hz ⟨by rw [hhd, ← e]; rfl, fun e2 => ?_⟩
        have := congrArg List.length e2
        simp only [List.length_append, List.length_cons, List.length_nil] at this
        exact hr (List.length_eq_zero_iff.mp (by omega))
      rw [TL.numL_step (by omega), show (NumText.digitsVal r * 10 + (c - 48)) / 10 = NumText.digitsVal r by omega, e]
      congr 2
      omega
theorem figs_inv {l : List Nat} {n : Nat} (h : figs l = some n) : TL.numL n = l ∧ l.length ≤ 7 := by
  unfold figs at h
  split at h
  · cases h
  · rename_i h1
    split at h
    · cases h
    · rename_i h2
      cases h
      simp only [not_or] at h1
      exact ⟨num_val _ l rfl (dig_iff.mp (by simpa using h1.2.2)) h1.1 h2, by omega⟩
theorem figs_lt {l : List Nat} {n : Nat} (h : figs l = some n) : n < 10 ^ 7 := by
  obtain ⟨e, hl⟩ := figs_inv h
  refine Nat.lt_of_not_le fun z => ?_
  have : ∀ (k n : Nat), 10 ^ k ≤ n → k < (TL.numL n).length := by
    intro k
    induction k with
    | zero => intro n _; exact List.length_pos_iff.mpr (TL.numL_ne n)
    | succ k ih =>
      intro n hn
      have hp : 10 ≤ 10 ^ (k + 1) := by rw [Nat.pow_succ]; have := Nat.pow_pos (n := k) (show 0 < 10 by decide); omega
      rw [TL.numL_step (by omega)]
      have := ih (n / 10) (by rw [Nat.le_div_iff_mul_le (by decide)]; rw [Nat.pow_succ] at hn; exact hn)
      simp only [List.length_append, List.length_cons, List.length_nil]
      omega
  have := this 7 n z
  rw [e] at this
  omega
/-! ### worths -/
theorem num_cons (n : Nat) : ∃ c r, TL.numL n = c :: r ∧ 48 ≤ c := by
  cases e : TL.numL n with
  | nil => exact absurd e (TL.numL_ne n)
  | cons c r => exact ⟨c, r, rfl, (TL.numL_digits n c (by rw [e]; simp)).1⟩
theorem worth_rt {w : Int} (h1 : -1048575 ≤ w) (h2 : w ≤ 1048575) : worthP (worthL w) = some w := by
  unfold worthL
  by_cases h : w < 0
  · rw [if_pos h]
    unfold worthP
    rw [if_pos (show (45 :: TL.numL w.natAbs).head? = some 45 from rfl)]
    unfold negP
    rw [show (45 :: TL.numL w.natAbs).tail = TL.numL w.natAbs from rfl, figs_num (by omega)]
    simp only
    rw [if_neg (by omega)]
    congr 1
    omega
  · rw [if_neg h]
    obtain ⟨c, r, e, hc⟩ := num_cons w.natAbs
    unfold worthP
    rw [if_neg (by rw [e]; simp only [List.head?_cons, Option.some.injEq]; omega)]
    unfold posP
    rw [figs_num (by omega)]
    simp only
    rw [if_neg (by omega)]
    congr 1
    omega
theorem worth_inv {l : List Nat} {w : Int} (h : worthP l = some w) : worthL w = l ∧ -1048575 ≤ w ∧ w ≤ 1048575 := by
  unfold worthP at h
  split at h
  · rename_i hc
    obtain ⟨r, rfl⟩ : ∃ r, l = 45 :: r := by
      cases l with
      | nil => cases hc
      | cons c r => simp only [List.head?_cons, Option.some.injEq] at hc; exact ⟨r, by rw [hc]⟩
    unfold negP at h
    split at h
    · rename_i n e
      split at h
      · cases h
      · rename_i hn
        cases h
        have e2 : TL.numL n = r := (figs_inv e).1
        refine ⟨?_, by omega, by omega⟩
        unfold worthL
        rw [if_pos (by omega), show (-(n : Int)).natAbs = n by omega, e2]
    · cases h
  · unfold posP at h
    split at h
    · rename_i n e
      split at h
      · cases h
      · rename_i hn
        cases h
        obtain ⟨e2, _⟩ := figs_inv e
        refine ⟨?_, by omega, by omega⟩
        unfold worthL
        rw [if_neg (by omega), show ((n : Nat) : Int).natAbs = n by omega, e2]
    · cases h
theorem worth_free {w : Int} {s : Nat} (h : s < 48 ∨ 57 < s) (h2 : s ≠ 45) : s ∉ worthL w := by
  unfold worthL
  split
  · rw [List.mem_cons, not_or]
    exact ⟨h2, TL.numL_free h⟩
  · exact TL.numL_free h
theorem enc_free {p : Int × Nat} : 32 ∉ enc p := by
  unfold enc
  rw [List.mem_append, List.mem_cons, not_or, not_or]
  exact ⟨worth_free (by decide) (by decide), by decide, TL.numL_free (by decide)⟩
theorem stretch_rt {p : Int × Nat} (h1 : -1048575 ≤ p.1) (h2 : p.1 ≤ 1048575) (h3 : p.2 ≠ 0) (h4 : p.2 < 10 ^ 7) : stretchP (enc p) = some p := by
  unfold stretchP enc
  have e : TL.spl [42] 0 [] (worthL p.1 ++ 42 :: TL.numL p.2) = [worthL p.1, TL.numL p.2] := by
    have := TL.spl_part1 (s := 42) (S := []) (p := worthL p.1) (rest := TL.numL p.2) (acc := []) (worth_free (by decide) (by decide))
    rw [List.nil_append] at this
    rw [show worthL p.1 ++ 42 :: TL.numL p.2 = worthL p.1 ++ ([42] ++ TL.numL p.2) from rfl, this, TL.spl_last1 (TL.numL_free (by decide)), List.nil_append]
  rw [e]
  show (match worthP (worthL p.1), figs (TL.numL p.2) with
    | some w, some m => if m = 0 then none else some (w, m)
    | _, _ => none) = _
  rw [worth_rt h1 h2, figs_num h4]
  show (if p.2 = 0 then none else some (p.1, p.2)) = _
  rw [if_neg h3]
/-! ### cut and joined -/
theorem join_spl {c : Nat} (hc : c < 256) (l : List Nat) : TL.joinL [c] (TL.spl [c] 0 [] l) = l := by
  have h1 := TL.split_spl (SX.S l) (SX.S [c]) (by simp) (TL.kind_ok (by simp [hc]))
  have h2 := congrArg TL.tl (StrLaws.join_split (SX.S l) (SX.S [c]))
  rw [TL.tl_join, h1] at h2
  exact h2
theorem stretch_inv {l : List Nat} {p : Int × Nat} (h : stretchP l = some p) : enc p = l ∧ -1048575 ≤ p.1 ∧ p.1 ≤ 1048575 ∧ p.2 ≠ 0 ∧ p.2 < 10 ^ 7 := by
  unfold stretchP at h
  have j := join_spl (c := 42) (by decide) l
  generalize TL.spl [42] 0 [] l = q at h j
  unfold pairP at h
  split at h
  · rename_i a b
    split at h
    · rename_i w m e1 e2
      split at h
      · cases h
      · rename_i hm
        cases h
        obtain ⟨i1, i2, i3⟩ := worth_inv e1
        obtain ⟨j1, _⟩ := figs_inv e2
        refine ⟨?_, i2, i3, hm, figs_lt e2⟩
        rw [← j]
        show worthL w ++ 42 :: TL.numL m = a ++ ([42] ++ b)
        rw [i1, j1]
        rfl
    · cases h
  · cases h
/-! ### the runs -/
theorem runs_pos : ∀ (r : List Int) (w : Int) (m : Nat), m ≠ 0 → ∀ p ∈ runs w m r, p.2 ≠ 0
  | [], w, m, h, p, hp => by simp only [runs, List.mem_singleton] at hp; subst hp; exact h
  | x :: r, w, m, h, p, hp => by
    simp only [runs] at hp
    split at hp
    · exact runs_pos r w (m + 1) (by omega) p hp
    · rcases List.mem_cons.mp hp with rfl | hp
      · exact h
      · exact runs_pos r x 1 (by decide) p hp
theorem runs_rt {n : Nat} (hn : n ≤ 20000) : ∀ (r : List Int) (w : Int) (m : Nat) (acc : List Int) (bef : Option Int), m ≠ 0 → Wd1 (w :: r) → some w ≠ bef → acc.length + m + r.length = n →
    goP n ((runs w m r).map enc) acc bef = some (acc ++ List.replicate m w ++ r)
  | [], w, m, acc, bef, hm, hw, hb, hl => by
    obtain ⟨w1, w2⟩ := hw w (by simp)
    simp only [List.length_nil] at hl
    simp only [runs, List.map_cons, List.map_nil, goP]
    rw [stretch_rt w1 w2 hm (by show m < _; omega)]
    simp only
    rw [if_neg (by rintro (z | z); exact hb z; omega), if_pos (by simp; omega), List.append_nil]
  | x :: r, w, m, acc, bef, hm, hw, hb, hl => by
    obtain ⟨w1, w2⟩ := hw w (by simp)
    simp only [List.length_cons] at hl
    simp only [runs]
    by_cases e : x = w
    · subst e
      rw [if_pos rfl, runs_rt hn r x (m + 1) acc bef (by omega) (fun y hy => hw y (by rw [List.mem_cons] at hy ⊢; rcases hy with h | h; exact .inl h; exact .inr (List.mem_cons_of_mem _ h))) hb (by omega)]
      rw [List.replicate_succ', List.append_assoc, List.append_assoc, List.append_assoc]
      rfl
    · rw [if_neg e, List.map_cons]
      simp only [goP]
      rw [stretch_rt w1 w2 hm (by show m < _; omega)]
      simp only
      rw [if_neg (by rintro (z | z); exact hb z; omega), runs_rt hn r x 1 _ (some w) (by decide) (fun y hy => hw y (List.mem_cons_of_mem _ hy)) (fun z => e (Option.some.inj z)) (by simp; omega)]
      simp
theorem read_show {s : List Int} (hw : Wd1 s) (hl : s.length ≤ 20000) : readP (showL s) = some s := by
  unfold readP showL
  rw [TL.spl_join (by simp [showW]) (by
    intro p hp
    simp only [showW, List.mem_cons, List.mem_map] at hp
    rcases hp with rfl | rfl | ⟨q, _, rfl⟩
    · decide
    · exact TL.numL_free (by decide)
    · exact enc_free)]
  unfold showW wordsP
  simp only
  rw [if_pos trivial, figs_num (by omega)]
  simp only
  rw [if_neg (by omega)]
  cases s with
  | nil => rfl
  | cons x r =>
    show goP _ ((runs x 1 r).map enc) [] none = _
    rw [runs_rt hl r x 1 [] none (by decide) hw (by simp) (by simp; omega)]
    rfl
theorem show_inj {s t : List Int} (hs : Wd1 s) (ls : s.length ≤ 20000) (ht : Wd1 t) (lt : t.length ≤ 20000) (h : showL s = showL t) : s = t := by
  have := read_show hs ls
  rw [h, read_show ht lt] at this
  exact (Option.some.inj this).symm
theorem runs_rep (x : Int) : ∀ (j k : Nat) (t : List Int), (∀ y r, t = y :: r → y ≠ x) → runs x k (List.replicate j x ++ t) = (x, k + j) :: sruns t
  | 0, k, [], _ => rfl
  | 0, k, y :: r, h => by
    show (if y = x then _ else (x, k) :: runs y 1 r) = _
    rw [if_neg (h y r rfl)]
    rfl
  | j + 1, k, t, h => by
    rw [List.replicate_succ, List.cons_append]
    show (if x = x then runs x (k + 1) (List.replicate j x ++ t) else _) = _
    rw [if_pos rfl, runs_rep x j (k + 1) t h, show k + 1 + j = k + (j + 1) by omega]
theorem goP_inv {n : Nat} : ∀ (ws : List (List Nat)) (acc s : List Int) (bef : Option Int), goP n ws acc bef = some s → s.length = n ∧ ∃ t, s = acc ++ t ∧ ws = (sruns t).map enc ∧ Wd1 t ∧ ∀ y r, t = y :: r → some y ≠ bef
  | [], acc, s, bef, h => by
    simp only [goP] at h
    split at h
    · cases h
      exact ⟨‹_›, [], by simp, rfl, (fun x hx => by cases hx), (fun y r z => by cases z)⟩
    · cases h
  | w :: ws, acc, s, bef, h => by
    simp only [goP] at h
    split at h
    · cases h
    · rename_i x m e
      split at h
      · cases h
      · rename_i hn
        simp only [not_or] at hn
        obtain ⟨e1, e2, e3, e4, _⟩ := stretch_inv e
        obtain ⟨hl, t, rfl, rfl, hw, hh⟩ := goP_inv ws _ _ _ h
        refine ⟨hl, List.replicate m x ++ t, by simp, ?_, ?_, ?_⟩
        · obtain ⟨j, rfl⟩ : ∃ j, m = j + 1 := ⟨m - 1, by have : m ≠ 0 := e4; omega⟩
          rw [List.replicate_succ, List.cons_append]
          show w :: _ = (runs x 1 (List.replicate j x ++ t)).map enc
          rw [runs_rep x j 1 t (fun y r z q => hh y r z (by rw [q])), List.map_cons, show 1 + j = j + 1 by omega, e1]
        · intro y hy
          rw [List.mem_append] at hy
          rcases hy with hy | hy
          · rw [List.eq_of_mem_replicate hy]
            exact ⟨e2, e3⟩
          · exact hw y hy
        · intro y r z
          obtain ⟨j, rfl⟩ : ∃ j, m = j + 1 := ⟨m - 1, by have : m ≠ 0 := e4; omega⟩
          rw [List.replicate_succ, List.cons_append] at z
          cases z
          exact hn.1
theorem show_read {l : List Nat} {s : List Int} (h : readP l = some s) : showL s = l ∧ Wd1 s ∧ s.length ≤ 20000 := by
  unfold readP at h
  have j := join_spl (c := 32) (by decide) l
  generalize TL.spl [32] 0 [] l = q at h j
  unfold wordsP at h
  split at h
  · rename_i w0 w1 ws
    split at h
    · rename_i h0
      split at h
      · rename_i n e
        split at h
        · cases h
        · rename_i hn
          obtain ⟨hl, t, rfl, rfl, hw, _⟩ := goP_inv ws _ _ _ h
          refine ⟨?_, hw, by omega⟩
          rw [← j]
          unfold showL showW
          rw [h0, hl, (figs_inv e).1]
      · cases h
    · cases h
  · cases h
/-! ### the law's own reading -/
def ownS (w : List Nat) : Option (Int × Nat) := match stretchP w with
  | some (x, m) => if 20000 < m then none else some (x, m)
  | none => none
def goO (n : Nat) : List (List Nat) → List Int → Option (List Int)
  | [], acc => if acc.length = n then some acc else none
  | w :: ws, acc => match ownS w with
    | none => none
    | some (x, m) => if 20000 < acc.length + m then none else if acc.getLast? = some x then none else goO n ws (acc ++ List.replicate m x)
theorem goO_long {n : Nat} : ∀ (ws : List (List Nat)) (acc : List Int), n < acc.length → goO n ws acc = none
  | [], acc, h => by simp only [goO]; rw [if_neg (by omega)]
  | w :: ws, acc, h => by
    simp only [goO]
    split
    · rfl
    · split
      · rfl
      · split
        · rfl
        · exact goO_long ws _ (by simp; omega)
theorem last_rep {acc : List Int} {x : Int} {m : Nat} (h : m ≠ 0) : (acc ++ List.replicate m x).getLast? = some x := by
  obtain ⟨j, rfl⟩ : ∃ j, m = j + 1 := ⟨m - 1, by omega⟩
  rw [List.replicate_succ', ← List.append_assoc]
  simp
theorem goO_goP {n : Nat} (hn : n ≤ 20000) : ∀ (ws : List (List Nat)) (acc : List Int), goO n ws acc = goP n ws acc acc.getLast?
  | [], acc => rfl
  | w :: ws, acc => by
    simp only [goO, goP, ownS]
    cases e : stretchP w with
    | none => rfl
    | some p =>
      obtain ⟨x, m⟩ := p
      obtain ⟨_, _, _, hm, _⟩ := stretch_inv e
      have hm : m ≠ 0 := hm
      simp only
      by_cases h1 : 20000 < m
      · rw [if_pos h1]
        simp only
        rw [if_pos (by omega)]
      · rw [if_neg h1]
        simp only
        by_cases h2 : 20000 < acc.length + m
        · rw [if_pos h2, if_pos (by omega)]
        · rw [if_neg h2]
          by_cases h3 : acc.getLast? = some x
          · rw [if_pos h3, if_pos (.inl h3.symm)]
          · rw [if_neg h3]
            by_cases h4 : n < acc.length + m
            · rw [if_pos (.inr h4), goO_long ws _ (by simp; omega)]
            · rw [if_neg (by rintro (z | z); exact h3 z.symm; exact h4 z), goO_goP hn ws, last_rep hm]
end K81
set_option Elab.async false
set_option linter.all false
set_option autoImplicit false
set_option maxRecDepth 100000
set_option maxHeartbeats 4000000
set_option pp.maxSteps 1500
set_option pp.deepTerms false
namespace K81
open PySem PySem.Spec L2 UL
def gls : List (Str × U) := [("TOP", .int 1048575)]
abbrev TB (cl : List (Str × USp)) (hcl : List (Str × USp) := []) : Tab2 := tabOf cl gls xcs sub kin hcl
abbrev TH (cl : List (Str × USp)) (hot : Bool) : Tab2 := tabOf cl gls xcs sub kin [] hot
abbrev GM (cl : List (Str × USp)) (hcl : List (Str × USp) := []) : Gam := gam cl gls hcl
def isW : U → Bool
  | .int i => decide (-1048575 ≤ i) && decide (i ≤ 1048575)
  | _ => false
def isS : U → Bool
  | .tup us => us.all isW
  | _ => false
def okS (G : UH) (u : U) : Prop := tyS G u ∧ ∀ ws, u = .tup ws → ∀ x ∈ ws, tyS G x
def xnu (w : Str) : UXn := (0, [.int (-1), .str w])
def xbt : UXn := (1, [.int 0])
/-! ### is_integer -/
def sp_is_integer : USp := fun us G Q _ => ∃ u, us = [u] ∧ tyS G u ∧ Q (.bl (isI u)) G
def cl_is_integer : List (Str × USp) := []
theorem isI_k {u : U} : isI u = (if kI u = true then !kB u else kI u) := by cases u <;> rfl
theorem w_is_integer (us : List U) (G : UH) (Q : UK) (E : UXn → UH → Prop) (h : sp_is_integer us G Q E) : trSs (TB cl_is_integer) (GM cl_is_integer) b_is_integer (UD Q E) (startU n_is_integer us) G := by
  obtain ⟨u, rfl, ht, q⟩ := h
  simp only [inH_xc, inH_fn, inH_gl, trJ, uFmt, uXf, uXi, gam_hf, gam_xc, tab_kin, trSs, trS, trE, trT, trX, pl, trA, trO, trC, trI, uBin_s, uUn_s, uVar_s, uC_s, getS, setS, uOp, uAdd, uSub, uMul, uDiv, uMod, uPow, uNeg, uCmp, uEqF, uLt, uLe, uGt, uGe, uIsF, isNonU, uTru, Blt.fn, uLen, uAbs, uMax2, uMin2, uInt, uIx, startU, gam_fn, gam_gl, tab_xcs, tab_sub, UD_nx, UD_rt, UD_bk, UD_ct, UD_ex, spAt, glAt, gls, seqOf, List.map_cons, List.map_nil, List.cons_append, List.nil_append, List.length_cons, List.length_nil, List.replicate, Nat.reduceAdd, Nat.reduceSub, Nat.zero_add, reduceIte, Bool.false_eq_true, Bool.true_eq_false, Bool.false_bne, Bool.true_bne, Bool.not_true, Bool.not_false, Bool.not_not, List.reverse_cons, List.reverse_nil, Option.map_some, Option.map_none, up_same, uTuple, uList, uSet, atI_zero, atI_one, ixN_20, ixN_zero, List.set_cons_zero, uPow, b_is_integer, n_is_integer]
  refine isi_int ht ?_
  simp only [inH_xc, inH_fn, inH_gl, trJ, uFmt, uXf, uXi, gam_hf, gam_xc, tab_kin, trSs, trS, trE, trT, trX, pl, trA, trO, trC, trI, uBin_s, uUn_s, uVar_s, uC_s, getS, setS, uOp, uAdd, uSub, uMul, uDiv, uMod, uPow, uNeg, uCmp, uEqF, uLt, uLe, uGt, uGe, uIsF, isNonU, uTru, Blt.fn, uLen, uAbs, uMax2, uMin2, uInt, uIx, startU, gam_fn, gam_gl, tab_xcs, tab_sub, UD_nx, UD_rt, UD_bk, UD_ct, UD_ex, spAt, glAt, gls, seqOf, List.map_cons, List.map_nil, List.cons_append, List.nil_append, List.length_cons, List.length_nil, List.replicate, Nat.reduceAdd, Nat.reduceSub, Nat.zero_add, reduceIte, Bool.false_eq_true, Bool.true_eq_false, Bool.false_bne, Bool.true_bne, Bool.not_true, Bool.not_false, Bool.not_not, List.reverse_cons, List.reverse_nil, Option.map_some, Option.map_none, up_same, uTuple, uList, uSet, atI_zero, atI_one, ixN_20, ixN_zero, List.set_cons_zero, uPow]
  cases e : kI u with
  | false =>
    simp only [inH_xc, inH_fn, inH_gl, trJ, uFmt, uXf, uXi, gam_hf, gam_xc, tab_kin, trSs, trS, trE, trT, trX, pl, trA, trO, trC, trI, uBin_s, uUn_s, uVar_s, uC_s, getS, setS, uOp, uAdd, uSub, uMul, uDiv, uMod, uPow, uNeg, uCmp, uEqF, uLt, uLe, uGt, uGe, uIsF, isNonU, uTru, Blt.fn, uLen, uAbs, uMax2, uMin2, uInt, uIx, startU, gam_fn, gam_gl, tab_xcs, tab_sub, UD_nx, UD_rt, UD_bk, UD_ct, UD_ex, spAt, glAt, gls, seqOf, List.map_cons, List.map_nil, List.cons_append, List.nil_append, List.length_cons, List.length_nil, List.replicate, Nat.reduceAdd, Nat.reduceSub, Nat.zero_add, reduceIte, Bool.false_eq_true, Bool.true_eq_false, Bool.false_bne, Bool.true_bne, Bool.not_true, Bool.not_false, Bool.not_not, List.reverse_cons, List.reverse_nil, Option.map_some, Option.map_none, up_same, uTuple, uList, uSet, atI_zero, atI_one, ixN_20, ixN_zero, List.set_cons_zero, uPow]
    refine fin.of ?_
    rw [isI_k, e] at q
    exact q
  | true =>
    simp only [inH_xc, inH_fn, inH_gl, trJ, uFmt, uXf, uXi, gam_hf, gam_xc, tab_kin, trSs, trS, trE, trT, trX, pl, trA, trO, trC, trI, uBin_s, uUn_s, uVar_s, uC_s, getS, setS, uOp, uAdd, uSub, uMul, uDiv, uMod, uPow, uNeg, uCmp, uEqF, uLt, uLe, uGt, uGe, uIsF, isNonU, uTru, Blt.fn, uLen, uAbs, uMax2, uMin2, uInt, uIx, startU, gam_fn, gam_gl, tab_xcs, tab_sub, UD_nx, UD_rt, UD_bk, UD_ct, UD_ex, spAt, glAt, gls, seqOf, List.map_cons, List.map_nil, List.cons_append, List.nil_append, List.length_cons, List.length_nil, List.replicate, Nat.reduceAdd, Nat.reduceSub, Nat.zero_add, reduceIte, Bool.false_eq_true, Bool.true_eq_false, Bool.false_bne, Bool.true_bne, Bool.not_true, Bool.not_false, Bool.not_not, List.reverse_cons, List.reverse_nil, Option.map_some, Option.map_none, up_same, uTuple, uList, uSet, atI_zero, atI_one, ixN_20, ixN_zero, List.set_cons_zero, uPow]
    refine isi_bool ht ?_
    simp only [inH_xc, inH_fn, inH_gl, trJ, uFmt, uXf, uXi, gam_hf, gam_xc, tab_kin, trSs, trS, trE, trT, trX, pl, trA, trO, trC, trI, uBin_s, uUn_s, uVar_s, uC_s, getS, setS, uOp, uAdd, uSub, uMul, uDiv, uMod, uPow, uNeg, uCmp, uEqF, uLt, uLe, uGt, uGe, uIsF, isNonU, uTru, Blt.fn, uLen, uAbs, uMax2, uMin2, uInt, uIx, startU, gam_fn, gam_gl, tab_xcs, tab_sub, UD_nx, UD_rt, UD_bk, UD_ct, UD_ex, spAt, glAt, gls, seqOf, List.map_cons, List.map_nil, List.cons_append, List.nil_append, List.length_cons, List.length_nil, List.replicate, Nat.reduceAdd, Nat.reduceSub, Nat.zero_add, reduceIte, Bool.false_eq_true, Bool.true_eq_false, Bool.false_bne, Bool.true_bne, Bool.not_true, Bool.not_false, Bool.not_not, List.reverse_cons, List.reverse_nil, Option.map_some, Option.map_none, up_same, uTuple, uList, uSet, atI_zero, atI_one, ixN_20, ixN_zero, List.set_cons_zero, uPow]
    refine fin.of ?_
    rw [isI_k, e] at q
    exact q
/-! ### is_worth -/
def sp_is_worth : USp := fun us G Q _ => ∃ u, us = [u] ∧ tyS G u ∧ Q (.bl (isW u)) G
def cl_is_worth : List (Str × USp) := [("is_integer", sp_is_integer)]
theorem w_is_worth (us : List U) (G : UH) (Q : UK) (E : UXn → UH → Prop) (h : sp_is_worth us G Q E) : trSs (TB cl_is_worth) (GM cl_is_worth) b_is_worth (UD Q E) (startU n_is_worth us) G := by
  obtain ⟨u, rfl, ht, q⟩ := h
  simp only [inH_xc, inH_fn, inH_gl, trJ, uFmt, uXf, uXi, gam_hf, gam_xc, tab_kin, trSs, trS, trE, trT, trX, pl, trA, trO, trC, trI, uBin_s, uUn_s, uVar_s, uC_s, getS, setS, uOp, uAdd, uSub, uMul, uDiv, uMod, uPow, uNeg, uCmp, uEqF, uLt, uLe, uGt, uGe, uIsF, isNonU, uTru, Blt.fn, uLen, uAbs, uMax2, uMin2, uInt, uIx, startU, gam_fn, gam_gl, tab_xcs, tab_sub, UD_nx, UD_rt, UD_bk, UD_ct, UD_ex, spAt, glAt, gls, seqOf, List.map_cons, List.map_nil, List.cons_append, List.nil_append, List.length_cons, List.length_nil, List.replicate, Nat.reduceAdd, Nat.reduceSub, Nat.zero_add, reduceIte, Bool.false_eq_true, Bool.true_eq_false, Bool.false_bne, Bool.true_bne, Bool.not_true, Bool.not_false, Bool.not_not, List.reverse_cons, List.reverse_nil, Option.map_some, Option.map_none, up_same, uTuple, uList, uSet, atI_zero, atI_one, ixN_20, ixN_zero, List.set_cons_zero, uPow, b_is_worth, n_is_worth, cl_is_worth]
  refine ⟨u, rfl, ht, ?_⟩
  cases u with
  | int i =>
    simp only [inH_xc, inH_fn, inH_gl, trJ, uFmt, uXf, uXi, gam_hf, gam_xc, tab_kin, trSs, trS, trE, trT, trX, pl, trA, trO, trC, trI, uBin_s, uUn_s, uVar_s, uC_s, getS, setS, uOp, uAdd, uSub, uMul, uDiv, uMod, uPow, uNeg, uCmp, uEqF, uLt, uLe, uGt, uGe, uIsF, isNonU, uTru, Blt.fn, uLen, uAbs, uMax2, uMin2, uInt, uIx, startU, gam_fn, gam_gl, tab_xcs, tab_sub, UD_nx, UD_rt, UD_bk, UD_ct, UD_ex, spAt, glAt, gls, seqOf, List.map_cons, List.map_nil, List.cons_append, List.nil_append, List.length_cons, List.length_nil, List.replicate, Nat.reduceAdd, Nat.reduceSub, Nat.zero_add, reduceIte, Bool.false_eq_true, Bool.true_eq_false, Bool.false_bne, Bool.true_bne, Bool.not_true, Bool.not_false, Bool.not_not, List.reverse_cons, List.reverse_nil, Option.map_some, Option.map_none, up_same, uTuple, uList, uSet, atI_zero, atI_one, ixN_20, ixN_zero, List.set_cons_zero, uPow, isI]
    by_cases h1 : (-1048575 : Int) ≤ i
    · simp only [inH_xc, inH_fn, inH_gl, trJ, uFmt, uXf, uXi, gam_hf, gam_xc, tab_kin, trSs, trS, trE, trT, trX, pl, trA, trO, trC, trI, uBin_s, uUn_s, uVar_s, uC_s, getS, setS, uOp, uAdd, uSub, uMul, uDiv, uMod, uPow, uNeg, uCmp, uEqF, uLt, uLe, uGt, uGe, uIsF, isNonU, uTru, Blt.fn, uLen, uAbs, uMax2, uMin2, uInt, uIx, startU, gam_fn, gam_gl, tab_xcs, tab_sub, UD_nx, UD_rt, UD_bk, UD_ct, UD_ex, spAt, glAt, gls, seqOf, List.map_cons, List.map_nil, List.cons_append, List.nil_append, List.length_cons, List.length_nil, List.replicate, Nat.reduceAdd, Nat.reduceSub, Nat.zero_add, reduceIte, Bool.false_eq_true, Bool.true_eq_false, Bool.false_bne, Bool.true_bne, Bool.not_true, Bool.not_false, Bool.not_not, List.reverse_cons, List.reverse_nil, Option.map_some, Option.map_none, up_same, uTuple, uList, uSet, atI_zero, atI_one, ixN_20, ixN_zero, List.set_cons_zero, uPow, h1, decide_true]
      refine fin.of ?_
      simpa [isW, h1] using q
    · simp only [inH_xc, inH_fn, inH_gl, trJ, uFmt, uXf, uXi, gam_hf, gam_xc, tab_kin, trSs, trS, trE, trT, trX, pl, trA, trO, trC, trI, uBin_s, uUn_s, uVar_s, uC_s, getS, setS, uOp, uAdd, uSub, uMul, uDiv, uMod, uPow, uNeg, uCmp, uEqF, uLt, uLe, uGt, uGe, uIsF, isNonU, uTru, Blt.fn, uLen, uAbs, uMax2, uMin2, uInt, uIx, startU, gam_fn, gam_gl, tab_xcs, tab_sub, UD_nx, UD_rt, UD_bk, UD_ct, UD_ex, spAt, glAt, gls, seqOf, List.map_cons, List.map_nil, List.cons_append, List.nil_append, List.length_cons, List.length_nil, List.replicate, Nat.reduceAdd, Nat.reduceSub, Nat.zero_add, reduceIte, Bool.false_eq_true, Bool.true_eq_false, Bool.false_bne, Bool.true_bne, Bool.not_true, Bool.not_false, Bool.not_not, List.reverse_cons, List.reverse_nil, Option.map_some, Option.map_none, up_same, uTuple, uList, uSet, atI_zero, atI_one, ixN_20, ixN_zero, List.set_cons_zero, uPow, h1, decide_false]
      refine fin.of ?_
      simpa [isW, h1] using q
  | _ =>
    simp only [inH_xc, inH_fn, inH_gl, trJ, uFmt, uXf, uXi, gam_hf, gam_xc, tab_kin, trSs, trS, trE, trT, trX, pl, trA, trO, trC, trI, uBin_s, uUn_s, uVar_s, uC_s, getS, setS, uOp, uAdd, uSub, uMul, uDiv, uMod, uPow, uNeg, uCmp, uEqF, uLt, uLe, uGt, uGe, uIsF, isNonU, uTru, Blt.fn, uLen, uAbs, uMax2, uMin2, uInt, uIx, startU, gam_fn, gam_gl, tab_xcs, tab_sub, UD_nx, UD_rt, UD_bk, UD_ct, UD_ex, spAt, glAt, gls, seqOf, List.map_cons, List.map_nil, List.cons_append, List.nil_append, List.length_cons, List.length_nil, List.replicate, Nat.reduceAdd, Nat.reduceSub, Nat.zero_add, reduceIte, Bool.false_eq_true, Bool.true_eq_false, Bool.false_bne, Bool.true_bne, Bool.not_true, Bool.not_false, Bool.not_not, List.reverse_cons, List.reverse_nil, Option.map_some, Option.map_none, up_same, uTuple, uList, uSet, atI_zero, atI_one, ixN_20, ixN_zero, List.set_cons_zero, uPow, isI]
    exact fin.of q
/-! ### is_sound -/
def sp_is_sound : USp := fun us G Q _ => ∃ u, us = [u] ∧ okS G u ∧ Q (.bl (isS u)) G
def cl_is_sound : List (Str × USp) := [("is_worth", sp_is_worth)]
theorem l_is_sound {G : UH} {t : U} (D : UE) : ∀ (ws : List U) (o : Option U), (∀ x ∈ ws, tyS G x) → (ws.all isW = false → D.rt (.bl false) G) → (ws.all isW = true → ∀ o, D.nx [some t, o] G) → forU [] (trG (.nm 1)) (trSs (TB cl_is_sound) (GM cl_is_sound) l1_is_sound) D ws [some t, o] G
  | [], o, _, _, h => ⟨trivial, h rfl o⟩
  | w :: ws, o, ht, hf, hn => by
    refine ⟨trivial, ?_⟩
    generalize hT : forU _ _ _ D ws = T
    simp only [inH_xc, inH_fn, inH_gl, trJ, uFmt, uXf, uXi, gam_hf, gam_xc, tab_kin, trSs, trS, trE, trT, trX, pl, trA, trO, trC, trI, uBin_s, uUn_s, uVar_s, uC_s, getS, setS, uOp, uAdd, uSub, uMul, uDiv, uMod, uPow, uNeg, uCmp, uEqF, uLt, uLe, uGt, uGe, uIsF, isNonU, uTru, Blt.fn, uLen, uAbs, uMax2, uMin2, uInt, uIx, startU, gam_fn, gam_gl, tab_xcs, tab_sub, UD_nx, UD_rt, UD_bk, UD_ct, UD_ex, spAt, glAt, gls, seqOf, List.map_cons, List.map_nil, List.cons_append, List.nil_append, List.length_cons, List.length_nil, List.replicate, Nat.reduceAdd, Nat.reduceSub, Nat.zero_add, reduceIte, Bool.false_eq_true, Bool.true_eq_false, Bool.false_bne, Bool.true_bne, Bool.not_true, Bool.not_false, Bool.not_not, List.reverse_cons, List.reverse_nil, Option.map_some, Option.map_none, up_same, uTuple, uList, uSet, atI_zero, atI_one, ixN_20, ixN_zero, List.set_cons_zero, uPow, trG, l1_is_sound, cl_is_sound]
    refine ⟨w, rfl, ht w List.mem_cons_self, ?_⟩
    cases e : isW w with
    | false =>
      simp only [inH_xc, inH_fn, inH_gl, trJ, uFmt, uXf, uXi, gam_hf, gam_xc, tab_kin, trSs, trS, trE, trT, trX, pl, trA, trO, trC, trI, uBin_s, uUn_s, uVar_s, uC_s, getS, setS, uOp, uAdd, uSub, uMul, uDiv, uMod, uPow, uNeg, uCmp, uEqF, uLt, uLe, uGt, uGe, uIsF, isNonU, uTru, Blt.fn, uLen, uAbs, uMax2, uMin2, uInt, uIx, startU, gam_fn, gam_gl, tab_xcs, tab_sub, UD_nx, UD_rt, UD_bk, UD_ct, UD_ex, spAt, glAt, gls, seqOf, List.map_cons, List.map_nil, List.cons_append, List.nil_append, List.length_cons, List.length_nil, List.replicate, Nat.reduceAdd, Nat.reduceSub, Nat.zero_add, reduceIte, Bool.false_eq_true, Bool.true_eq_false, Bool.false_bne, Bool.true_bne, Bool.not_true, Bool.not_false, Bool.not_not, List.reverse_cons, List.reverse_nil, Option.map_some, Option.map_none, up_same, uTuple, uList, uSet, atI_zero, atI_one, ixN_20, ixN_zero, List.set_cons_zero, uPow]
      exact hf (by simp [e])
    | true =>
      simp only [inH_xc, inH_fn, inH_gl, trJ, uFmt, uXf, uXi, gam_hf, gam_xc, tab_kin, trSs, trS, trE, trT, trX, pl, trA, trO, trC, trI, uBin_s, uUn_s, uVar_s, uC_s, getS, setS, uOp, uAdd, uSub, uMul, uDiv, uMod, uPow, uNeg, uCmp, uEqF, uLt, uLe, uGt, uGe, uIsF, isNonU, uTru, Blt.fn, uLen, uAbs, uMax2, uMin2, uInt, uIx, startU, gam_fn, gam_gl, tab_xcs, tab_sub, UD_nx, UD_rt, UD_bk, UD_ct, UD_ex, spAt, glAt, gls, seqOf, List.map_cons, List.map_nil, List.cons_append, List.nil_append, List.length_cons, List.length_nil, List.replicate, Nat.reduceAdd, Nat.reduceSub, Nat.zero_add, reduceIte, Bool.false_eq_true, Bool.true_eq_false, Bool.false_bne, Bool.true_bne, Bool.not_true, Bool.not_false, Bool.not_not, List.reverse_cons, List.reverse_nil, Option.map_some, Option.map_none, up_same, uTuple, uList, uSet, atI_zero, atI_one, ixN_20, ixN_zero, List.set_cons_zero, uPow]
      subst hT
      exact ⟨G, .refl G, l_is_sound D ws _ (fun x hx => ht x (List.mem_cons_of_mem _ hx)) (fun h => hf (by simp [e, h])) (fun h => hn (by simp [e, h]))⟩
theorem w_is_sound (us : List U) (G : UH) (Q : UK) (E : UXn → UH → Prop) (h : sp_is_sound us G Q E) : trSs (TB cl_is_sound) (GM cl_is_sound) b_is_sound (UD Q E) (startU n_is_sound us) G := by
  obtain ⟨u, rfl, ht, q⟩ := h
  simp only [inH_xc, inH_fn, inH_gl, trJ, uFmt, uXf, uXi, gam_hf, gam_xc, tab_kin, trSs, trS, trE, trT, trX, pl, trA, trO, trC, trI, uBin_s, uUn_s, uVar_s, uC_s, getS, setS, uOp, uAdd, uSub, uMul, uDiv, uMod, uPow, uNeg, uCmp, uEqF, uLt, uLe, uGt, uGe, uIsF, isNonU, uTru, Blt.fn, uLen, uAbs, uMax2, uMin2, uInt, uIx, startU, gam_fn, gam_gl, tab_xcs, tab_sub, UD_nx, UD_rt, UD_bk, UD_ct, UD_ex, spAt, glAt, gls, seqOf, List.map_cons, List.map_nil, List.cons_append, List.nil_append, List.length_cons, List.length_nil, List.replicate, Nat.reduceAdd, Nat.reduceSub, Nat.zero_add, reduceIte, Bool.false_eq_true, Bool.true_eq_false, Bool.false_bne, Bool.true_bne, Bool.not_true, Bool.not_false, Bool.not_not, List.reverse_cons, List.reverse_nil, Option.map_some, Option.map_none, up_same, uTuple, uList, uSet, atI_zero, atI_one, ixN_20, ixN_zero, List.set_cons_zero, uPow, b_is_sound, n_is_sound]
  refine isi_tuple ht.1 ?_
  simp only [inH_xc, inH_fn, inH_gl, trJ, uFmt, uXf, uXi, gam_hf, gam_xc, tab_kin, trSs, trS, trE, trT, trX, pl, trA, trO, trC, trI, uBin_s, uUn_s, uVar_s, uC_s, getS, setS, uOp, uAdd, uSub, uMul, uDiv, uMod, uPow, uNeg, uCmp, uEqF, uLt, uLe, uGt, uGe, uIsF, isNonU, uTru, Blt.fn, uLen, uAbs, uMax2, uMin2, uInt, uIx, startU, gam_fn, gam_gl, tab_xcs, tab_sub, UD_nx, UD_rt, UD_bk, UD_ct, UD_ex, spAt, glAt, gls, seqOf, List.map_cons, List.map_nil, List.cons_append, List.nil_append, List.length_cons, List.length_nil, List.replicate, Nat.reduceAdd, Nat.reduceSub, Nat.zero_add, reduceIte, Bool.false_eq_true, Bool.true_eq_false, Bool.false_bne, Bool.true_bne, Bool.not_true, Bool.not_false, Bool.not_not, List.reverse_cons, List.reverse_nil, Option.map_some, Option.map_none, up_same, uTuple, uList, uSet, atI_zero, atI_one, ixN_20, ixN_zero, List.set_cons_zero, uPow]
  cases u with
  | tup ws =>
    simp only [inH_xc, inH_fn, inH_gl, trJ, uFmt, uXf, uXi, gam_hf, gam_xc, tab_kin, trSs, trS, trE, trT, trX, pl, trA, trO, trC, trI, uBin_s, uUn_s, uVar_s, uC_s, getS, setS, uOp, uAdd, uSub, uMul, uDiv, uMod, uPow, uNeg, uCmp, uEqF, uLt, uLe, uGt, uGe, uIsF, isNonU, uTru, Blt.fn, uLen, uAbs, uMax2, uMin2, uInt, uIx, startU, gam_fn, gam_gl, tab_xcs, tab_sub, UD_nx, UD_rt, UD_bk, UD_ct, UD_ex, spAt, glAt, gls, seqOf, List.map_cons, List.map_nil, List.cons_append, List.nil_append, List.length_cons, List.length_nil, List.replicate, Nat.reduceAdd, Nat.reduceSub, Nat.zero_add, reduceIte, Bool.false_eq_true, Bool.true_eq_false, Bool.false_bne, Bool.true_bne, Bool.not_true, Bool.not_false, Bool.not_not, List.reverse_cons, List.reverse_nil, Option.map_some, Option.map_none, up_same, uTuple, uList, uSet, atI_zero, atI_one, ixN_20, ixN_zero, List.set_cons_zero, uPow, kT, t2_is_sound]
    refine l_is_sound _ ws none (ht.2 ws rfl) (fun h => ?_) (fun h o => ?_)
    · refine fin.of ?_
      rw [show isS (.tup ws) = false from h] at q
      exact q
    · simp only [inH_xc, inH_fn, inH_gl, trJ, uFmt, uXf, uXi, gam_hf, gam_xc, tab_kin, trSs, trS, trE, trT, trX, pl, trA, trO, trC, trI, uBin_s, uUn_s, uVar_s, uC_s, getS, setS, uOp, uAdd, uSub, uMul, uDiv, uMod, uPow, uNeg, uCmp, uEqF, uLt, uLe, uGt, uGe, uIsF, isNonU, uTru, Blt.fn, uLen, uAbs, uMax2, uMin2, uInt, uIx, startU, gam_fn, gam_gl, tab_xcs, tab_sub, UD_nx, UD_rt, UD_bk, UD_ct, UD_ex, spAt, glAt, gls, seqOf, List.map_cons, List.map_nil, List.cons_append, List.nil_append, List.length_cons, List.length_nil, List.replicate, Nat.reduceAdd, Nat.reduceSub, Nat.zero_add, reduceIte, Bool.false_eq_true, Bool.true_eq_false, Bool.false_bne, Bool.true_bne, Bool.not_true, Bool.not_false, Bool.not_not, List.reverse_cons, List.reverse_nil, Option.map_some, Option.map_none, up_same, uTuple, uList, uSet, atI_zero, atI_one, ixN_20, ixN_zero, List.set_cons_zero, uPow, t1_is_sound]
      refine fin.of ?_
      rw [show isS (.tup ws) = true from h] at q
      exact q
  | _ =>
    simp only [inH_xc, inH_fn, inH_gl, trJ, uFmt, uXf, uXi, gam_hf, gam_xc, tab_kin, trSs, trS, trE, trT, trX, pl, trA, trO, trC, trI, uBin_s, uUn_s, uVar_s, uC_s, getS, setS, uOp, uAdd, uSub, uMul, uDiv, uMod, uPow, uNeg, uCmp, uEqF, uLt, uLe, uGt, uGe, uIsF, isNonU, uTru, Blt.fn, uLen, uAbs, uMax2, uMin2, uInt, uIx, startU, gam_fn, gam_gl, tab_xcs, tab_sub, UD_nx, UD_rt, UD_bk, UD_ct, UD_ex, spAt, glAt, gls, seqOf, List.map_cons, List.map_nil, List.cons_append, List.nil_append, List.length_cons, List.length_nil, List.replicate, Nat.reduceAdd, Nat.reduceSub, Nat.zero_add, reduceIte, Bool.false_eq_true, Bool.true_eq_false, Bool.false_bne, Bool.true_bne, Bool.not_true, Bool.not_false, Bool.not_not, List.reverse_cons, List.reverse_nil, Option.map_some, Option.map_none, up_same, uTuple, uList, uSet, atI_zero, atI_one, ixN_20, ixN_zero, List.set_cons_zero, uPow, kT]
    exact fin.of q

/-! ### texts as values -/
abbrev wU (ls : List (List Nat)) : List U := (ls.map SX.S).map U.str
theorem S_lit {l : List Nat} {s : Str} : decide (SX.S l = s) = decide (l = TL.tl s) := by
  have : (SX.S l = s) ↔ (l = TL.tl s) := ⟨fun h => by rw [← h], fun h => by subst h; exact TL.mk_tl s⟩
  exact decide_eq_decide.mpr this
theorem num_S (n : Nat) : Str.ofString (toString ((n : Nat) : Int)) = SX.S (TL.numL n) := SX.num_S n
theorem int_S (i : Int) : Str.ofString (toString i) = SX.S (worthL i) := by
  unfold worthL
  cases i with
  | ofNat n =>
    rw [if_neg (by simp)]
    exact num_S n
  | negSucc n =>
    rw [if_pos (by omega)]
    refine TL.ext_tl ?_
    rw [TL.tl_ofString]
    show (("-" ++ toString (n + 1)).toList).map Char.toNat = _
    rw [String.toList_append, List.map_append]
    have e := TL.tl_num (n + 1)
    rw [TL.tl_ofString] at e
    have e2 : (toString (n + 1)).toList.map Char.toNat = TL.numL (n + 1) := e
    rw [e2]
    rfl
theorem lit_S (s : Str) : s = SX.S (TL.tl s) := (TL.mk_tl s).symm
theorem worthL_len {i : Int} (h1 : -1048575 ≤ i) (h2 : i ≤ 1048575) : (worthL i).length ≤ 8 := by
  have := TL.numL_len (n := i.natAbs) (k := 7) (by decide) (by omega)
  unfold worthL
  split
  · rw [List.length_cons]; omega
  · omega
theorem enc_len {p : Int × Nat} (h1 : -1048575 ≤ p.1) (h2 : p.1 ≤ 1048575) (h3 : p.2 < 10 ^ 7) : (enc p).length ≤ 16 := by
  have a := worthL_len h1 h2
  have b := TL.numL_len (n := p.2) (k := 7) (by decide) h3
  unfold enc
  rw [List.length_append, List.length_cons]
  omega
theorem runs_bd : ∀ (r : List Int) (w : Int) (m : Nat), Wd1 (w :: r) → (runs w m r).length ≤ r.length + 1 ∧ ∀ p ∈ runs w m r, -1048575 ≤ p.1 ∧ p.1 ≤ 1048575 ∧ p.2 ≤ m + r.length
  | [], w, m, h => ⟨by simp [runs], fun p hp => by
    simp only [runs, List.mem_singleton] at hp
    subst hp
    exact ⟨(h w (by simp)).1, (h w (by simp)).2, by simp⟩⟩
  | x :: r, w, m, h => by
    simp only [runs]
    split
    · rename_i e
      subst e
      obtain ⟨a, b⟩ := runs_bd r x (m + 1) (fun y hy => h y (by rw [List.mem_cons] at hy ⊢; rcases hy with h | h; exact .inl h; exact .inr (List.mem_cons_of_mem _ h)))
      refine ⟨by rw [List.length_cons]; omega, fun p hp => ?_⟩
      obtain ⟨c, d, e⟩ := b p hp
      exact ⟨c, d, by rw [List.length_cons]; omega⟩
    · obtain ⟨a, b⟩ := runs_bd r x 1 (fun y hy => h y (List.mem_cons_of_mem _ hy))
      refine ⟨by simp only [List.length_cons]; omega, fun p hp => ?_⟩
      rcases List.mem_cons.mp hp with rfl | hp
      · exact ⟨(h w (by simp)).1, (h w (by simp)).2, by show m ≤ _; omega⟩
      · obtain ⟨c, d, e⟩ := b p hp
        exact ⟨c, d, by rw [List.length_cons]; omega⟩
theorem sum_le {ls : List (List Nat)} {k : Nat} (h : ∀ l ∈ ls, l.length ≤ k) : (ls.map (·.length)).sum ≤ k * ls.length := by
  induction ls with
  | nil => simp
  | cons l ls ih =>
    have a := h l (by simp)
    have b := ih fun l hl => h l (List.mem_cons_of_mem _ hl)
    rw [List.map_cons, List.sum_cons, List.length_cons, Nat.mul_succ]
    omega
theorem showW_bd {s : List Int} (hw : Wd1 s) (hl : s.length ≤ 20000) : (showW s).length ≤ s.length + 2 ∧ ∀ l ∈ showW s, l.length ≤ 16 := by
  have hb : (sruns s).length ≤ s.length ∧ ∀ p ∈ sruns s, -1048575 ≤ p.1 ∧ p.1 ≤ 1048575 ∧ p.2 ≤ s.length := by
    cases s with
    | nil => exact ⟨by simp [sruns], fun p hp => by simp [sruns] at hp⟩
    | cons x r =>
      obtain ⟨a, b⟩ := runs_bd r x 1 hw
      exact ⟨a, fun p hp => ⟨(b p hp).1, (b p hp).2.1, by rw [List.length_cons]; have := (b p hp).2.2; omega⟩⟩
  refine ⟨by simp only [showW, List.length_cons, List.length_map]; omega, fun l hl' => ?_⟩
  simp only [showW, List.mem_cons, List.mem_map] at hl'
  rcases hl' with rfl | rfl | ⟨p, hp, rfl⟩
  · decide
  · have := TL.numL_len (n := s.length) (k := 7) (by decide) (by omega)
    omega
  · obtain ⟨a, b, c⟩ := hb.2 p hp
    exact enc_len a b (by omega)
theorem join_len {c : Nat} : ∀ ls : List (List Nat), (TL.joinL [c] ls).length ≤ (ls.map (·.length)).sum + ls.length
  | [] => by simp [TL.joinL]
  | [l] => by simp [TL.joinL]
  | l :: m :: r => by
    have := join_len (c := c) (m :: r)
    simp only [TL.joinL, List.length_append, List.length_cons, List.length_nil, List.map_cons, List.sum_cons] at this ⊢
    omega
theorem showL_len {s : List Int} (hw : Wd1 s) (hl : s.length ≤ 20000) : (showL s).length ≤ 17 * s.length + 40 := by
  obtain ⟨a, b⟩ := showW_bd hw hl
  have c := sum_le b
  have d := join_len (c := 32) (showW s)
  unfold showL
  omega
theorem lens (ls : List (List Nat)) : (ls.map SX.S).map (·.length) = ls.map (·.length) := SX.lens ls
/-! ### show_sound -/
def sp_show_sound : USp := fun us G Q E => ∃ u, us = [u] ∧ okS G u ∧ (isS u = false → E (xnu "sound") G) ∧ (isS u = true → ∃ ws : List Int, u = .tup (ws.map U.int) ∧ Wd1 ws ∧ ws.length ≤ 20000 ∧ ∀ G', Le G G' → Q (.str (SX.S (showL ws))) G')
def cl_show_sound : List (Str × USp) := [("is_sound", sp_is_sound)]
theorem log2_small {n : Nat} (h : n < 2 ^ 64) : n.log2 < 1920 := by
  by_cases h0 : n = 0
  · subst h0; decide
  · exact (Nat.log2_lt h0).mpr (Nat.lt_of_lt_of_le h (Nat.pow_le_pow_right (by decide) (by decide)))
theorem enc_S (w : Int) (m : Nat) : Str.empty ++ Str.ofString (toString w) ++ Str.ofString "*" ++ Str.ofString (toString ((m : Nat) : Int)) = SX.S (enc (w, m)) := by
  rw [int_S, num_S, show Str.empty = SX.S [] from rfl, show Str.ofString "*" = SX.S [42] from rfl, SX.S_cat, SX.S_cat, SX.S_cat]
  unfold enc
  simp
/-- a run is told -/
theorem app_show {W : Addr} {ws : List Int} {w : Int} {m lo : Nat} {acc : List (List Nat)} {G : UH} (hl : ws.length ≤ 20000) (at0 : atI (ws.map U.int) (lo : Int) = some (.int w)) (hw0 : -1048575 ≤ w ∧ w ≤ 1048575) (hm : m ≤ 20000) (ha : acc.length ≤ 20005) (hG : G W = some (.lst (wU acc))) (D : UE)
    (q : D.nx [some (.tup (ws.map U.int)), some (.ref W), some (.int ((lo + m : Nat) : Int)), some (.int ((lo + m : Nat) : Int))] (UL.up G W (.lst (wU (acc ++ [enc (w, m)]))))) :
    trSs (TB cl_show_sound) (GM cl_show_sound) (.cons (.expr (.mth .append (.var 1) (.cons (.jn (.cons (.fmt (.ix (.var 0) (.var 2))) (.cons (.str "*") (.cons (.fmt (.bin .Sub (.var 3) (.var 2))) .nil)))) .nil))) t1_show_sound) D [some (.tup (ws.map U.int)), some (.ref W), some (.int lo), some (.int ((lo + m : Nat) : Int))] G := by
  have lg := line_ge
  have el := enc_len (p := (w, m)) hw0.1 hw0.2 (by show m < _; omega)
  have wl := worthL_len hw0.1 hw0.2
  have hsub : ((lo + m : Nat) : Int) - (lo : Int) = (m : Int) := by omega
  simp only [inH_xc, inH_fn, inH_gl, trJ, uFmt, uXf, uXi, gam_hf, gam_xc, tab_kin, trSs, trS, trE, trT, trX, pl, trA, trO, trC, trI, uBin_s, uUn_s, uVar_s, uC_s, getS, setS, uOp, uAdd, uSub, uMul, uDiv, uMod, uPow, uNeg, uCmp, uEqF, uLt, uLe, uGt, uGe, uIsF, isNonU, uTru, Blt.fn, uAbs, uMax2, uMin2, uInt, startU, gam_fn, gam_gl, tab_xcs, tab_sub, UD_nx, UD_rt, UD_bk, UD_ct, UD_ex, spAt, glAt, gls, List.map_cons, List.map_nil, List.cons_append, List.nil_append, List.length_cons, List.length_nil, List.replicate, Nat.reduceAdd, Nat.reduceSub, Nat.zero_add, reduceIte, Bool.false_eq_true, Bool.true_eq_false, Bool.false_bne, Bool.true_bne, Bool.not_true, Bool.not_false, Bool.not_not, List.reverse_cons, List.reverse_nil, Option.map_some, Option.map_none, up_same, uSet, atI_zero, atI_one, ixN_20, ixN_zero, List.set_cons_zero, uPow, Mth.T, Mth.fn, mTy, uL, hG]
  refine ⟨trivial, ?_⟩
  refine ix_sq (.inl rfl) at0 ?_
  simp only [inH_xc, inH_fn, inH_gl, trJ, uFmt, uXf, uXi, gam_hf, gam_xc, tab_kin, trSs, trS, trE, trT, trX, pl, trA, trO, trC, trI, uBin_s, uUn_s, uVar_s, uC_s, getS, setS, uOp, uAdd, uSub, uMul, uDiv, uMod, uPow, uNeg, uCmp, uEqF, uLt, uLe, uGt, uGe, uIsF, isNonU, uTru, Blt.fn, uAbs, uMax2, uMin2, uInt, startU, gam_fn, gam_gl, tab_xcs, tab_sub, UD_nx, UD_rt, UD_bk, UD_ct, UD_ex, spAt, glAt, gls, List.map_cons, List.map_nil, List.cons_append, List.nil_append, List.length_cons, List.length_nil, List.replicate, Nat.reduceAdd, Nat.reduceSub, Nat.zero_add, reduceIte, Bool.false_eq_true, Bool.true_eq_false, Bool.false_bne, Bool.true_bne, Bool.not_true, Bool.not_false, Bool.not_not, List.reverse_cons, List.reverse_nil, Option.map_some, Option.map_none, up_same, uSet, atI_zero, atI_one, ixN_20, ixN_zero, List.set_cons_zero, uPow, hsub, hG]
  refine ⟨log2_small (by omega), ?_, ?_, log2_small (by omega), ?_, ?_, ?_⟩
  · rw [int_S, show Str.empty = SX.S [] from rfl, SX.S_cat, SX.S_len, List.nil_append]; omega
  · rw [int_S, show Str.empty = SX.S [] from rfl, show Str.ofString "*" = SX.S [42] from rfl, SX.S_cat, SX.S_cat, SX.S_len]; simp; omega
  · rw [enc_S, SX.S_len]; omega
  · simp; omega
  · simp only [inH_xc, inH_fn, inH_gl, trJ, uFmt, uXf, uXi, gam_hf, gam_xc, tab_kin, trSs, trS, trE, trT, trX, pl, trA, trO, trC, trI, uBin_s, uUn_s, uVar_s, uC_s, getS, setS, uOp, uAdd, uSub, uMul, uDiv, uMod, uPow, uNeg, uCmp, uEqF, uLt, uLe, uGt, uGe, uIsF, isNonU, uTru, Blt.fn, uAbs, uMax2, uMin2, uInt, startU, gam_fn, gam_gl, tab_xcs, tab_sub, UD_nx, UD_rt, UD_bk, UD_ct, UD_ex, spAt, glAt, gls, List.map_cons, List.map_nil, List.cons_append, List.nil_append, List.length_cons, List.length_nil, List.replicate, Nat.reduceAdd, Nat.reduceSub, Nat.zero_add, reduceIte, Bool.false_eq_true, Bool.true_eq_false, Bool.false_bne, Bool.true_bne, Bool.not_true, Bool.not_false, Bool.not_not, List.reverse_cons, List.reverse_nil, Option.map_some, Option.map_none, up_same, uSet, atI_zero, atI_one, ixN_20, ixN_zero, List.set_cons_zero, uPow, t1_show_sound, trG]
    rw [enc_S]
    simpa [wU] using q
theorem l_show {W : Addr} {ws : List Int} (hl : ws.length ≤ 20000) (hw : Wd1 ws) (D : UE) : ∀ (r done : List Int) (m : Nat) (w : Int) (acc : List (List Nat)) (o : Option U) (G : UH), ws = done ++ List.replicate m w ++ r → m ≠ 0 → acc.length + r.length ≤ 20005 → G W = some (.lst (wU acc)) →
    (∀ o2 o3, D.nx [some (.tup (ws.map U.int)), some (.ref W), o2, o3] (UL.up G W (.lst (wU (acc ++ (runs w m r).map enc))))) →
    forU [] (trG (.nm 3)) (trSs (TB cl_show_sound) (GM cl_show_sound) l1_show_sound) D (rangeU ((done.length + m : Nat) : Int) 1 (r.length + 1)) [some (.tup (ws.map U.int)), some (.ref W), some (.int done.length), o] G
  | [], done, m, w, acc, o, G, e, hm, ha, hG, q => by
    have lg := line_ge
    have hlen : ws.length = done.length + m := by rw [e]; simp
    have hw0 := hw w (by rw [e]; simp [hm])
    have at0 : atI (ws.map U.int) (done.length : Int) = some (.int w) := atI_nat (by omega) (by
      rw [Int.toNat_natCast, List.getElem?_map, e, List.append_nil, List.getElem?_append_right (Nat.le_refl _), Nat.sub_self]
      cases m with
      | zero => exact absurd rfl hm
      | succ m => rfl)
    refine ⟨trivial, ?_⟩
    show _
    have next : ∀ o2 o3, forU [] (trG (.nm 3)) (trSs (TB cl_show_sound) (GM cl_show_sound) l1_show_sound) D (rangeU (((done.length + m : Nat) : Int) + 1) 1 0) [some (.tup (ws.map U.int)), some (.ref W), o2, o3] (UL.up G W (.lst (wU (acc ++ [enc (w, m)])))) := fun o2 o3 => ⟨trivial, q o2 o3⟩
    generalize forU _ _ _ D (rangeU _ 1 0) = T at next ⊢
    simp only [inH_xc, inH_fn, inH_gl, trJ, uFmt, uXf, uXi, gam_hf, gam_xc, tab_kin, trSs, trS, trE, trT, trX, pl, trA, trO, trC, trI, uBin_s, uUn_s, uVar_s, uC_s, getS, setS, uOp, uAdd, uSub, uMul, uDiv, uMod, uPow, uNeg, uCmp, uEqF, uLt, uLe, uGt, uGe, uIsF, isNonU, uTru, Blt.fn, uAbs, uMax2, uMin2, uInt, startU, gam_fn, gam_gl, tab_xcs, tab_sub, UD_nx, UD_rt, UD_bk, UD_ct, UD_ex, spAt, glAt, gls, List.map_cons, List.map_nil, List.cons_append, List.nil_append, List.length_cons, List.length_nil, List.replicate, Nat.reduceAdd, Nat.reduceSub, Nat.zero_add, reduceIte, Bool.false_eq_true, Bool.true_eq_false, Bool.false_bne, Bool.true_bne, Bool.not_true, Bool.not_false, Bool.not_not, List.reverse_cons, List.reverse_nil, Option.map_some, Option.map_none, up_same, uSet, atI_zero, atI_one, ixN_20, ixN_zero, List.set_cons_zero, uPow, trG, l1_show_sound]
    refine len_sq (.inl rfl) ?_
    simp only [inH_xc, inH_fn, inH_gl, trJ, uFmt, uXf, uXi, gam_hf, gam_xc, tab_kin, trSs, trS, trE, trT, trX, pl, trA, trO, trC, trI, uBin_s, uUn_s, uVar_s, uC_s, getS, setS, uOp, uAdd, uSub, uMul, uDiv, uMod, uPow, uNeg, uCmp, uEqF, uLt, uLe, uGt, uGe, uIsF, isNonU, uTru, Blt.fn, uAbs, uMax2, uMin2, uInt, startU, gam_fn, gam_gl, tab_xcs, tab_sub, UD_nx, UD_rt, UD_bk, UD_ct, UD_ex, spAt, glAt, gls, List.map_cons, List.map_nil, List.cons_append, List.nil_append, List.length_cons, List.length_nil, List.replicate, Nat.reduceAdd, Nat.reduceSub, Nat.zero_add, reduceIte, Bool.false_eq_true, Bool.true_eq_false, Bool.false_bne, Bool.true_bne, Bool.not_true, Bool.not_false, Bool.not_not, List.reverse_cons, List.reverse_nil, Option.map_some, Option.map_none, up_same, uSet, atI_zero, atI_one, ixN_20, ixN_zero, List.set_cons_zero, uPow, List.length_map, hlen, decide_true]
    exact app_show hl at0 hw0 (by omega) (by omega) hG _ ⟨_, .refl _, next _ _⟩
  | x :: r, done, m, w, acc, o, G, e, hm, ha, hG, q => by
    have lg := line_ge
    have hlen : ws.length = done.length + m + (r.length + 1) := by rw [e]; simp; omega
    have hw0 := hw w (by rw [e]; simp [hm])
    simp only [List.length_cons] at ha
    have at0 : atI (ws.map U.int) (done.length : Int) = some (.int w) := atI_nat (by omega) (by
      rw [Int.toNat_natCast, List.getElem?_map, e, List.append_assoc, List.getElem?_append_right (Nat.le_refl _), Nat.sub_self]
      cases m with
      | zero => exact absurd rfl hm
      | succ m => rfl)
    have at1 : atI (ws.map U.int) ((done.length + m : Nat) : Int) = some (.int x) := atI_nat (by omega) (by
      rw [Int.toNat_natCast, List.getElem?_map, e, List.getElem?_append_right (by simp)]
      simp)
    refine ⟨trivial, ?_⟩
    show _
    have e1 : (((done.length + m : Nat) : Int) + 1) = ((done.length + (m + 1) : Nat) : Int) := by omega
    have e2 : (((done.length + m : Nat) : Int) + 1) = (((done ++ List.replicate m w).length + 1 : Nat) : Int) := by simp
    have nx1 : x = w → ∀ o, forU [] (trG (.nm 3)) (trSs (TB cl_show_sound) (GM cl_show_sound) l1_show_sound) D (rangeU (((done.length + m : Nat) : Int) + 1) 1 (r.length + 1)) [some (.tup (ws.map U.int)), some (.ref W), some (.int done.length), o] G := fun h o => by
      rw [e1]
      refine l_show hl hw D r done (m + 1) w acc o G (by rw [e, h, List.replicate_succ']; simp) (by omega) (by omega) hG fun o2 o3 => ?_
      have := q o2 o3
      simp only [runs] at this
      rw [if_pos h] at this
      exact this
    have nx2 : x ≠ w → ∀ o, forU [] (trG (.nm 3)) (trSs (TB cl_show_sound) (GM cl_show_sound) l1_show_sound) D (rangeU (((done.length + m : Nat) : Int) + 1) 1 (r.length + 1)) [some (.tup (ws.map U.int)), some (.ref W), some (.int ((done.length + m : Nat) : Int)), o] (UL.up G W (.lst (wU (acc ++ [enc (w, m)])))) := fun h o => by
      rw [e2]
      have z := l_show hl hw D r (done ++ List.replicate m w) 1 x (acc ++ [enc (w, m)]) o (UL.up G W (.lst (wU (acc ++ [enc (w, m)])))) (by rw [e]; simp) (by decide) (by simp; omega) up_same fun o2 o3 => by
        have := q o2 o3
        simp only [runs] at this
        rw [if_neg h, List.map_cons] at this
        rw [up_up, List.append_assoc]
        exact this
      rw [show (((done ++ List.replicate m w).length : Nat) : Int) = ((done.length + m : Nat) : Int) by simp] at z
      exact z
    generalize forU _ _ _ D (rangeU _ 1 (r.length + 1)) = T at nx1 nx2 ⊢
    simp only [inH_xc, inH_fn, inH_gl, trJ, uFmt, uXf, uXi, gam_hf, gam_xc, tab_kin, trSs, trS, trE, trT, trX, pl, trA, trO, trC, trI, uBin_s, uUn_s, uVar_s, uC_s, getS, setS, uOp, uAdd, uSub, uMul, uDiv, uMod, uPow, uNeg, uCmp, uEqF, uLt, uLe, uGt, uGe, uIsF, isNonU, uTru, Blt.fn, uAbs, uMax2, uMin2, uInt, startU, gam_fn, gam_gl, tab_xcs, tab_sub, UD_nx, UD_rt, UD_bk, UD_ct, UD_ex, spAt, glAt, gls, List.map_cons, List.map_nil, List.cons_append, List.nil_append, List.length_cons, List.length_nil, List.replicate, Nat.reduceAdd, Nat.reduceSub, Nat.zero_add, reduceIte, Bool.false_eq_true, Bool.true_eq_false, Bool.false_bne, Bool.true_bne, Bool.not_true, Bool.not_false, Bool.not_not, List.reverse_cons, List.reverse_nil, Option.map_some, Option.map_none, up_same, uSet, atI_zero, atI_one, ixN_20, ixN_zero, List.set_cons_zero, uPow, trG, l1_show_sound]
    refine len_sq (.inl rfl) ?_
    simp only [inH_xc, inH_fn, inH_gl, trJ, uFmt, uXf, uXi, gam_hf, gam_xc, tab_kin, trSs, trS, trE, trT, trX, pl, trA, trO, trC, trI, uBin_s, uUn_s, uVar_s, uC_s, getS, setS, uOp, uAdd, uSub, uMul, uDiv, uMod, uPow, uNeg, uCmp, uEqF, uLt, uLe, uGt, uGe, uIsF, isNonU, uTru, Blt.fn, uAbs, uMax2, uMin2, uInt, startU, gam_fn, gam_gl, tab_xcs, tab_sub, UD_nx, UD_rt, UD_bk, UD_ct, UD_ex, spAt, glAt, gls, List.map_cons, List.map_nil, List.cons_append, List.nil_append, List.length_cons, List.length_nil, List.replicate, Nat.reduceAdd, Nat.reduceSub, Nat.zero_add, reduceIte, Bool.false_eq_true, Bool.true_eq_false, Bool.false_bne, Bool.true_bne, Bool.not_true, Bool.not_false, Bool.not_not, List.reverse_cons, List.reverse_nil, Option.map_some, Option.map_none, up_same, uSet, atI_zero, atI_one, ixN_20, ixN_zero, List.set_cons_zero, uPow, List.length_map, hlen, show decide (((done.length + m : Nat) : Int) = ((done.length + m + (r.length + 1) : Nat) : Int)) = false from decide_eq_false (by omega)]
    refine ix_sq (.inl rfl) at1 ?_
    refine ix_sq (.inl rfl) at0 ?_
    by_cases h : x = w
    · simp only [inH_xc, inH_fn, inH_gl, trJ, uFmt, uXf, uXi, gam_hf, gam_xc, tab_kin, trSs, trS, trE, trT, trX, pl, trA, trO, trC, trI, uBin_s, uUn_s, uVar_s, uC_s, getS, setS, uOp, uAdd, uSub, uMul, uDiv, uMod, uPow, uNeg, uCmp, uEqF, uLt, uLe, uGt, uGe, uIsF, isNonU, uTru, Blt.fn, uAbs, uMax2, uMin2, uInt, startU, gam_fn, gam_gl, tab_xcs, tab_sub, UD_nx, UD_rt, UD_bk, UD_ct, UD_ex, spAt, glAt, gls, List.map_cons, List.map_nil, List.cons_append, List.nil_append, List.length_cons, List.length_nil, List.replicate, Nat.reduceAdd, Nat.reduceSub, Nat.zero_add, reduceIte, Bool.false_eq_true, Bool.true_eq_false, Bool.false_bne, Bool.true_bne, Bool.not_true, Bool.not_false, Bool.not_not, List.reverse_cons, List.reverse_nil, Option.map_some, Option.map_none, up_same, uSet, atI_zero, atI_one, ixN_20, ixN_zero, List.set_cons_zero, uPow, h, decide_true]
      exact ⟨_, .refl _, nx1 h _⟩
    · simp only [inH_xc, inH_fn, inH_gl, trJ, uFmt, uXf, uXi, gam_hf, gam_xc, tab_kin, trSs, trS, trE, trT, trX, pl, trA, trO, trC, trI, uBin_s, uUn_s, uVar_s, uC_s, getS, setS, uOp, uAdd, uSub, uMul, uDiv, uMod, uPow, uNeg, uCmp, uEqF, uLt, uLe, uGt, uGe, uIsF, isNonU, uTru, Blt.fn, uAbs, uMax2, uMin2, uInt, startU, gam_fn, gam_gl, tab_xcs, tab_sub, UD_nx, UD_rt, UD_bk, UD_ct, UD_ex, spAt, glAt, gls, List.map_cons, List.map_nil, List.cons_append, List.nil_append, List.length_cons, List.length_nil, List.replicate, Nat.reduceAdd, Nat.reduceSub, Nat.zero_add, reduceIte, Bool.false_eq_true, Bool.true_eq_false, Bool.false_bne, Bool.true_bne, Bool.not_true, Bool.not_false, Bool.not_not, List.reverse_cons, List.reverse_nil, Option.map_some, Option.map_none, up_same, uSet, atI_zero, atI_one, ixN_20, ixN_zero, List.set_cons_zero, uPow, h, decide_false]
      exact app_show hl at0 hw0 (by omega) (by omega) hG _ ⟨_, .refl _, nx2 h _⟩
theorem w_show_sound (us : List U) (G : UH) (Q : UK) (E : UXn → UH → Prop) (h : sp_show_sound us G Q E) : trSs (TB cl_show_sound) (GM cl_show_sound) b_show_sound (UD Q E) (startU n_show_sound us) G := by
  obtain ⟨u, rfl, ht, q1, q2⟩ := h
  have lg := line_ge
  simp only [inH_xc, inH_fn, inH_gl, trJ, uFmt, uXf, uXi, gam_hf, gam_xc, tab_kin, trSs, trS, trE, trT, trX, pl, trA, trO, trC, trI, uBin_s, uUn_s, uVar_s, uC_s, getS, setS, uOp, uAdd, uSub, uMul, uDiv, uMod, uPow, uNeg, uCmp, uEqF, uLt, uLe, uGt, uGe, uIsF, isNonU, uTru, Blt.fn, uAbs, uMax2, uMin2, uInt, startU, gam_fn, gam_gl, tab_xcs, tab_sub, UD_nx, UD_rt, UD_bk, UD_ct, UD_ex, spAt, glAt, gls, List.map_cons, List.map_nil, List.cons_append, List.nil_append, List.length_cons, List.length_nil, List.replicate, Nat.reduceAdd, Nat.reduceSub, Nat.zero_add, reduceIte, Bool.false_eq_true, Bool.true_eq_false, Bool.false_bne, Bool.true_bne, Bool.not_true, Bool.not_false, Bool.not_not, List.reverse_cons, List.reverse_nil, Option.map_some, Option.map_none, up_same, uSet, atI_zero, atI_one, ixN_20, ixN_zero, List.set_cons_zero, uPow, b_show_sound, n_show_sound, cl_show_sound]
  refine ⟨u, rfl, ht, ?_⟩
  cases e : isS u with
  | false =>
    simp only [inH_xc, inH_fn, inH_gl, trJ, uFmt, uXf, uXi, gam_hf, gam_xc, tab_kin, trSs, trS, trE, trT, trX, pl, trA, trO, trC, trI, uBin_s, uUn_s, uVar_s, uC_s, getS, setS, uOp, uAdd, uSub, uMul, uDiv, uMod, uPow, uNeg, uCmp, uEqF, uLt, uLe, uGt, uGe, uIsF, isNonU, uTru, Blt.fn, uAbs, uMax2, uMin2, uInt, startU, gam_fn, gam_gl, tab_xcs, tab_sub, UD_nx, UD_rt, UD_bk, UD_ct, UD_ex, spAt, glAt, gls, List.map_cons, List.map_nil, List.cons_append, List.nil_append, List.length_cons, List.length_nil, List.replicate, Nat.reduceAdd, Nat.reduceSub, Nat.zero_add, reduceIte, Bool.false_eq_true, Bool.true_eq_false, Bool.false_bne, Bool.true_bne, Bool.not_true, Bool.not_false, Bool.not_not, List.reverse_cons, List.reverse_nil, Option.map_some, Option.map_none, up_same, uSet, atI_zero, atI_one, ixN_20, ixN_zero, List.set_cons_zero, uPow]
    exact ⟨rfl, fin.of (q1 e)⟩
  | true =>
    obtain ⟨ws, rfl, hw, hl, q⟩ := q2 e
    simp only [inH_xc, inH_fn, inH_gl, trJ, uFmt, uXf, uXi, gam_hf, gam_xc, tab_kin, trSs, trS, trE, trT, trX, pl, trA, trO, trC, trI, uBin_s, uUn_s, uVar_s, uC_s, getS, setS, uOp, uAdd, uSub, uMul, uDiv, uMod, uPow, uNeg, uCmp, uEqF, uLt, uLe, uGt, uGe, uIsF, isNonU, uTru, Blt.fn, uAbs, uMax2, uMin2, uInt, startU, gam_fn, gam_gl, tab_xcs, tab_sub, UD_nx, UD_rt, UD_bk, UD_ct, UD_ex, spAt, glAt, gls, List.map_cons, List.map_nil, List.cons_append, List.nil_append, List.length_cons, List.length_nil, List.replicate, Nat.reduceAdd, Nat.reduceSub, Nat.zero_add, reduceIte, Bool.false_eq_true, Bool.true_eq_false, Bool.false_bne, Bool.true_bne, Bool.not_true, Bool.not_false, Bool.not_not, List.reverse_cons, List.reverse_nil, Option.map_some, Option.map_none, up_same, uSet, atI_zero, atI_one, ixN_20, ixN_zero, List.set_cons_zero, uPow, t4_show_sound, uStr]
    refine len_sq (.inl rfl) ?_
    simp only [inH_xc, inH_fn, inH_gl, trJ, uFmt, uXf, uXi, gam_hf, gam_xc, tab_kin, trSs, trS, trE, trT, trX, pl, trA, trO, trC, trI, uBin_s, uUn_s, uVar_s, uC_s, getS, setS, uOp, uAdd, uSub, uMul, uDiv, uMod, uPow, uNeg, uCmp, uEqF, uLt, uLe, uGt, uGe, uIsF, isNonU, uTru, Blt.fn, uAbs, uMax2, uMin2, uInt, startU, gam_fn, gam_gl, tab_xcs, tab_sub, UD_nx, UD_rt, UD_bk, UD_ct, UD_ex, spAt, glAt, gls, List.map_cons, List.map_nil, List.cons_append, List.nil_append, List.length_cons, List.length_nil, List.replicate, Nat.reduceAdd, Nat.reduceSub, Nat.zero_add, reduceIte, Bool.false_eq_true, Bool.true_eq_false, Bool.false_bne, Bool.true_bne, Bool.not_true, Bool.not_false, Bool.not_not, List.reverse_cons, List.reverse_nil, Option.map_some, Option.map_none, up_same, uSet, atI_zero, atI_one, ixN_20, ixN_zero, List.set_cons_zero, uPow, List.length_map, num_S, uStr]
    refine ⟨log2_small (by omega), by omega, fun W hW => ?_⟩
    have L1 := Le.new (o := .lst [U.str (Str.ofString "sound"), U.str (SX.S (TL.numL ws.length))]) hW
    have eW : UL.up G W (.lst [U.str (Str.ofString "sound"), U.str (SX.S (TL.numL ws.length))]) W = some (.lst (wU [sndL, TL.numL ws.length])) := up_same
    have fin_ : ∀ o2 o3 G', Le G G' → G' W = some (.lst (wU (showW ws))) → trSs (TB cl_show_sound) (GM cl_show_sound) t2_show_sound (UD Q E) [some (.tup (ws.map U.int)), some (.ref W), o2, o3] G' := fun o2 o3 G' l e' => by
      obtain ⟨b1, b2⟩ := showW_bd hw hl
      have b3 := sum_le b2
      simp only [inH_xc, inH_fn, inH_gl, trJ, uFmt, uXf, uXi, gam_hf, gam_xc, tab_kin, trSs, trS, trE, trT, trX, pl, trA, trO, trC, trI, uBin_s, uUn_s, uVar_s, uC_s, getS, setS, uOp, uAdd, uSub, uMul, uDiv, uMod, uPow, uNeg, uCmp, uEqF, uLt, uLe, uGt, uGe, uIsF, isNonU, uTru, Blt.fn, uAbs, uMax2, uMin2, uInt, startU, gam_fn, gam_gl, tab_xcs, tab_sub, UD_nx, UD_rt, UD_bk, UD_ct, UD_ex, spAt, glAt, gls, List.map_cons, List.map_nil, List.cons_append, List.nil_append, List.length_cons, List.length_nil, List.replicate, Nat.reduceAdd, Nat.reduceSub, Nat.zero_add, reduceIte, Bool.false_eq_true, Bool.true_eq_false, Bool.false_bne, Bool.true_bne, Bool.not_true, Bool.not_false, Bool.not_not, List.reverse_cons, List.reverse_nil, Option.map_some, Option.map_none, up_same, uSet, atI_zero, atI_one, ixN_20, ixN_zero, List.set_cons_zero, uPow, t2_show_sound, Mth.T, Mth.fn, mTy, uL, e']
      rw [strsOf_map]
      refine ⟨trivial, ?_, ?_⟩
      · rw [lens, List.length_map]
        show _ + _ * 1 ≤ _
        omega
      · rw [show Str.ofString " " = SX.S [32] from rfl, SX.join_S]
        exact fin.of (q G' l)
    generalize UL.up G W _ = G1 at L1 eW ⊢
    simp only [inH_xc, inH_fn, inH_gl, trJ, uFmt, uXf, uXi, gam_hf, gam_xc, tab_kin, trSs, trS, trE, trT, trX, pl, trA, trO, trC, trI, uBin_s, uUn_s, uVar_s, uC_s, getS, setS, uOp, uAdd, uSub, uMul, uDiv, uMod, uPow, uNeg, uCmp, uEqF, uLt, uLe, uGt, uGe, uIsF, isNonU, uTru, Blt.fn, uAbs, uMax2, uMin2, uInt, startU, gam_fn, gam_gl, tab_xcs, tab_sub, UD_nx, UD_rt, UD_bk, UD_ct, UD_ex, spAt, glAt, gls, List.map_cons, List.map_nil, List.cons_append, List.nil_append, List.length_cons, List.length_nil, List.replicate, Nat.reduceAdd, Nat.reduceSub, Nat.zero_add, reduceIte, Bool.false_eq_true, Bool.true_eq_false, Bool.false_bne, Bool.true_bne, Bool.not_true, Bool.not_false, Bool.not_not, List.reverse_cons, List.reverse_nil, Option.map_some, Option.map_none, up_same, uSet, atI_zero, atI_one, ixN_20, ixN_zero, List.set_cons_zero, uPow, t3_show_sound, trG]
    refine len_sq (.inl rfl) ?_
    simp only [inH_xc, inH_fn, inH_gl, trJ, uFmt, uXf, uXi, gam_hf, gam_xc, tab_kin, trSs, trS, trE, trT, trX, pl, trA, trO, trC, trI, uBin_s, uUn_s, uVar_s, uC_s, getS, setS, uOp, uAdd, uSub, uMul, uDiv, uMod, uPow, uNeg, uCmp, uEqF, uLt, uLe, uGt, uGe, uIsF, isNonU, uTru, Blt.fn, uAbs, uMax2, uMin2, uInt, startU, gam_fn, gam_gl, tab_xcs, tab_sub, UD_nx, UD_rt, UD_bk, UD_ct, UD_ex, spAt, glAt, gls, List.map_cons, List.map_nil, List.cons_append, List.nil_append, List.length_cons, List.length_nil, List.replicate, Nat.reduceAdd, Nat.reduceSub, Nat.zero_add, reduceIte, Bool.false_eq_true, Bool.true_eq_false, Bool.false_bne, Bool.true_bne, Bool.not_true, Bool.not_false, Bool.not_not, List.reverse_cons, List.reverse_nil, Option.map_some, Option.map_none, up_same, uSet, atI_zero, atI_one, ixN_20, ixN_zero, List.set_cons_zero, uPow, List.length_map]
    refine ⟨by unfold small62; omega, by unfold small62; omega, ?_⟩
    have hn : (((ws.length : Nat) : Int) + 1 - 1).toNat = ws.length := by omega
    rw [hn]
    cases ws with
    | nil => exact ⟨trivial, fin_ _ _ _ L1 eW⟩
    | cons x r =>
      refine l_show hl hw _ r [] 1 x [sndL, TL.numL (x :: r).length] _ G1 rfl (by decide) (by simp only [List.length_cons, List.length_nil] at hl ⊢; omega) eW fun o2 o3 => ?_
      refine fin_ o2 o3 _ (fun a o e' => ?_) up_same
      by_cases z : a = W
      · subst z; rw [hW] at e'; cases e'
      · rw [up_ne z]; exact L1 a o e'
end K81
set_option Elab.async false
set_option linter.all false
set_option autoImplicit false
set_option maxRecDepth 100000
set_option maxHeartbeats 4000000
set_option pp.maxSteps 1500
set_option pp.deepTerms false
namespace K81
open PySem PySem.Spec L2 UL
/-! ### _sound_figures -/
def optN : Option Nat → U
  | some n => .int n
  | none => .non
def optI : Option Int → U
  | some n => .int n
  | none => .non
def optP : Option (Int × Nat) → U
  | some (x, m) => .tup [.int x, .int m]
  | none => .non
theorem dig_mem (c : Nat) : decide (c ∈ (Str.ofString "0123456789").cps.toList) = dig c := by
  have : (Str.ofString "0123456789").cps.toList = [48, 49, 50, 51, 52, 53, 54, 55, 56, 57] := rfl
  rw [this]
  unfold dig
  rw [← Bool.decide_and]
  refine decide_eq_decide.mpr ?_
  simp only [List.mem_cons, List.mem_nil_iff, or_false]
  omega
def sp__sound_figures : USp := fun us G Q _ => ∃ l : List Nat, us = [.str (SX.S l)] ∧ l.length ≤ 1000000 ∧ ∀ G', Le G G' → Q (optN (figs l)) G'
def cl__sound_figures : List (Str × USp) := []
theorem atN_zero {x : Nat} {xs : List Nat} : atI (x :: xs) 0 = some x := by
  unfold atI ixN
  rw [if_pos (by decide), if_pos (by simp only [List.length_cons]; omega)]
  rfl
theorem w__sound_figures (us : List U) (G : UH) (Q : UK) (E : UXn → UH → Prop) (h : sp__sound_figures us G Q E) : trSs (TB cl__sound_figures) (GM cl__sound_figures) b__sound_figures (UD Q E) (startU n__sound_figures us) G := by
  obtain ⟨l, rfl, hl, q⟩ := h
  have lg := line_ge
  unfold figs at q
  by_cases h1 : l = []
  · rw [if_pos (.inl h1)] at q
    simp only [inH_xc, inH_fn, inH_gl, trJ, uFmt, uXf, uXi, gam_hf, gam_xc, tab_kin, trSs, trS, trE, trT, trX, pl, trA, trO, trC, trI, uBin_s, uUn_s, uVar_s, uC_s, getS, setS, uOp, uAdd, uSub, uMul, uDiv, uMod, uPow, uNeg, uCmp, uEqF, uLt, uLe, uGt, uGe, uIsF, isNonU, uTru, Blt.fn, uAbs, uMax2, uMin2, uInt, startU, gam_fn, gam_gl, tab_xcs, tab_sub, UD_nx, UD_rt, UD_bk, UD_ct, UD_ex, spAt, glAt, gls, List.map_cons, List.map_nil, List.cons_append, List.nil_append, List.length_cons, List.length_nil, List.replicate, Nat.reduceAdd, Nat.reduceSub, Nat.zero_add, reduceIte, Bool.false_eq_true, Bool.true_eq_false, Bool.false_bne, Bool.true_bne, Bool.not_true, Bool.not_false, Bool.not_not, List.reverse_cons, List.reverse_nil, Option.map_some, Option.map_none, up_same, uSet, atI_zero, atI_one, ixN_20, ixN_zero, List.set_cons_zero, uPow, b__sound_figures, n__sound_figures, S_lit, h1, show decide (([] : List Nat) = TL.tl (Str.ofString "")) = true from rfl]
    exact fin.of (q G (.refl G))
  · by_cases h2 : 7 < l.length
    · rw [if_pos (.inr (.inl h2))] at q
      simp only [inH_xc, inH_fn, inH_gl, trJ, uFmt, uXf, uXi, gam_hf, gam_xc, tab_kin, trSs, trS, trE, trT, trX, pl, trA, trO, trC, trI, uBin_s, uUn_s, uVar_s, uC_s, getS, setS, uOp, uAdd, uSub, uMul, uDiv, uMod, uPow, uNeg, uCmp, uEqF, uLt, uLe, uGt, uGe, uIsF, isNonU, uTru, Blt.fn, uAbs, uMax2, uMin2, uInt, startU, gam_fn, gam_gl, tab_xcs, tab_sub, UD_nx, UD_rt, UD_bk, UD_ct, UD_ex, spAt, glAt, gls, List.map_cons, List.map_nil, List.cons_append, List.nil_append, List.length_cons, List.length_nil, List.replicate, Nat.reduceAdd, Nat.reduceSub, Nat.zero_add, reduceIte, Bool.false_eq_true, Bool.true_eq_false, Bool.false_bne, Bool.true_bne, Bool.not_true, Bool.not_false, Bool.not_not, List.reverse_cons, List.reverse_nil, Option.map_some, Option.map_none, up_same, uSet, atI_zero, atI_one, ixN_20, ixN_zero, List.set_cons_zero, uPow, b__sound_figures, n__sound_figures, S_lit, show decide (l = TL.tl (Str.ofString "")) = false from decide_eq_false h1, uLen, SX.S_len]
      refine ⟨by omega, ?_⟩
      simp only [inH_xc, inH_fn, inH_gl, trJ, uFmt, uXf, uXi, gam_hf, gam_xc, tab_kin, trSs, trS, trE, trT, trX, pl, trA, trO, trC, trI, uBin_s, uUn_s, uVar_s, uC_s, getS, setS, uOp, uAdd, uSub, uMul, uDiv, uMod, uPow, uNeg, uCmp, uEqF, uLt, uLe, uGt, uGe, uIsF, isNonU, uTru, Blt.fn, uAbs, uMax2, uMin2, uInt, startU, gam_fn, gam_gl, tab_xcs, tab_sub, UD_nx, UD_rt, UD_bk, UD_ct, UD_ex, spAt, glAt, gls, List.map_cons, List.map_nil, List.cons_append, List.nil_append, List.length_cons, List.length_nil, List.replicate, Nat.reduceAdd, Nat.reduceSub, Nat.zero_add, reduceIte, Bool.false_eq_true, Bool.true_eq_false, Bool.false_bne, Bool.true_bne, Bool.not_true, Bool.not_false, Bool.not_not, List.reverse_cons, List.reverse_nil, Option.map_some, Option.map_none, up_same, uSet, atI_zero, atI_one, ixN_20, ixN_zero, List.set_cons_zero, uPow, show decide ((7 : Int) < (l.length : Int)) = true from decide_eq_true (by omega)]
      exact fin.of (q G (.refl G))
    · simp only [inH_xc, inH_fn, inH_gl, trJ, uFmt, uXf, uXi, gam_hf, gam_xc, tab_kin, trSs, trS, trE, trT, trX, pl, trA, trO, trC, trI, uBin_s, uUn_s, uVar_s, uC_s, getS, setS, uOp, uAdd, uSub, uMul, uDiv, uMod, uPow, uNeg, uCmp, uEqF, uLt, uLe, uGt, uGe, uIsF, isNonU, uTru, Blt.fn, uAbs, uMax2, uMin2, uInt, startU, gam_fn, gam_gl, tab_xcs, tab_sub, UD_nx, UD_rt, UD_bk, UD_ct, UD_ex, spAt, glAt, gls, List.map_cons, List.map_nil, List.cons_append, List.nil_append, List.length_cons, List.length_nil, List.replicate, Nat.reduceAdd, Nat.reduceSub, Nat.zero_add, reduceIte, Bool.false_eq_true, Bool.true_eq_false, Bool.false_bne, Bool.true_bne, Bool.not_true, Bool.not_false, Bool.not_not, List.reverse_cons, List.reverse_nil, Option.map_some, Option.map_none, up_same, uSet, atI_zero, atI_one, ixN_20, ixN_zero, List.set_cons_zero, uPow, b__sound_figures, n__sound_figures, S_lit, show decide (l = TL.tl (Str.ofString "")) = false from decide_eq_false h1, uLen, SX.S_len]
      refine ⟨by omega, ?_⟩
      simp only [inH_xc, inH_fn, inH_gl, trJ, uFmt, uXf, uXi, gam_hf, gam_xc, tab_kin, trSs, trS, trE, trT, trX, pl, trA, trO, trC, trI, uBin_s, uUn_s, uVar_s, uC_s, getS, setS, uOp, uAdd, uSub, uMul, uDiv, uMod, uPow, uNeg, uCmp, uEqF, uLt, uLe, uGt, uGe, uIsF, isNonU, uTru, Blt.fn, uAbs, uMax2, uMin2, uInt, startU, gam_fn, gam_gl, tab_xcs, tab_sub, UD_nx, UD_rt, UD_bk, UD_ct, UD_ex, spAt, glAt, gls, List.map_cons, List.map_nil, List.cons_append, List.nil_append, List.length_cons, List.length_nil, List.replicate, Nat.reduceAdd, Nat.reduceSub, Nat.zero_add, reduceIte, Bool.false_eq_true, Bool.true_eq_false, Bool.false_bne, Bool.true_bne, Bool.not_true, Bool.not_false, Bool.not_not, List.reverse_cons, List.reverse_nil, Option.map_some, Option.map_none, up_same, uSet, atI_zero, atI_one, ixN_20, ixN_zero, List.set_cons_zero, uPow, show decide ((7 : Int) < (l.length : Int)) = false from decide_eq_false (by omega), slotsG, slotsGs, wipeU, trG]
      intro p hp
      refine lcU_map (ds := []) (G0 := G) (fun u => match u with
        | .str w => .bl (decide (w.cps.getD 0 0 ∈ (Str.ofString "0123456789").cps.toList))
        | u => u) (fun _ => trivial) _ [] (by simp; omega) (fun y hy acc K1 K0 k => ?_) ?_
      · obtain ⟨c, hc, rfl⟩ := List.mem_map.mp hy
        simp only [inH_xc, inH_fn, inH_gl, trJ, uFmt, uXf, uXi, gam_hf, gam_xc, tab_kin, trSs, trS, trE, trT, trX, pl, trA, trO, trC, trI, uBin_s, uUn_s, uVar_s, uC_s, getS, setS, uOp, uAdd, uSub, uMul, uDiv, uMod, uPow, uNeg, uCmp, uEqF, uLt, uLe, uGt, uGe, uIsF, isNonU, uTru, Blt.fn, uAbs, uMax2, uMin2, uInt, startU, gam_fn, gam_gl, tab_xcs, tab_sub, UD_nx, UD_rt, UD_bk, UD_ct, UD_ex, spAt, glAt, gls, List.map_cons, List.map_nil, List.cons_append, List.nil_append, List.length_cons, List.length_nil, List.replicate, Nat.reduceAdd, Nat.reduceSub, Nat.zero_add, reduceIte, Bool.false_eq_true, Bool.true_eq_false, Bool.false_bne, Bool.true_bne, Bool.not_true, Bool.not_false, Bool.not_not, List.reverse_cons, List.reverse_nil, Option.map_some, Option.map_none, up_same, uSet, atI_zero, atI_one, ixN_20, ixN_zero, List.set_cons_zero, uPow, uInF]
        exact ⟨rfl, k⟩
      · have e : List.map (fun u => match u with
          | U.str w => U.bl (decide (w.cps.getD 0 0 ∈ (Str.ofString "0123456789").cps.toList))
          | u => u) (List.map (fun c => U.str ⟨#[c]⟩) l) = (l.map dig).map U.bl := by
          rw [List.map_map, List.map_map]
          refine List.map_congr_left fun c _ => ?_
          exact congrArg U.bl (dig_mem c)
        rw [e, List.nil_append]
        have L1 := Le.new (o := .lst ((l.map dig).map U.bl)) hp
        have e2 : UL.up G p (.lst ((l.map dig).map U.bl)) p = some (.lst ((l.map dig).map U.bl)) := up_same
        generalize UL.up G p _ = G1 at L1 e2 ⊢
        unfold uAll uBlL
        simp only [e2, blsOf_map]
        have e3 : (l.map dig).all id = l.all dig := by rw [List.all_map]; rfl
        rw [e3]
        cases ed : l.all dig with
        | false =>
          rw [if_pos (.inr (.inr ed))] at q
          simp only [inH_xc, inH_fn, inH_gl, trJ, uFmt, uXf, uXi, gam_hf, gam_xc, tab_kin, trSs, trS, trE, trT, trX, pl, trA, trO, trC, trI, uBin_s, uUn_s, uVar_s, uC_s, getS, setS, uOp, uAdd, uSub, uMul, uDiv, uMod, uPow, uNeg, uCmp, uEqF, uLt, uLe, uGt, uGe, uIsF, isNonU, uTru, Blt.fn, uAbs, uMax2, uMin2, uInt, startU, gam_fn, gam_gl, tab_xcs, tab_sub, UD_nx, UD_rt, UD_bk, UD_ct, UD_ex, spAt, glAt, gls, List.map_cons, List.map_nil, List.cons_append, List.nil_append, List.length_cons, List.length_nil, List.replicate, Nat.reduceAdd, Nat.reduceSub, Nat.zero_add, reduceIte, Bool.false_eq_true, Bool.true_eq_false, Bool.false_bne, Bool.true_bne, Bool.not_true, Bool.not_false, Bool.not_not, List.reverse_cons, List.reverse_nil, Option.map_some, Option.map_none, up_same, uSet, atI_zero, atI_one, ixN_20, ixN_zero, List.set_cons_zero, uPow]
          exact fin.of (q G1 L1)
        | true =>
          rw [if_neg (by simp [h1, h2, ed])] at q
          obtain ⟨c, r, rfl⟩ : ∃ c r, l = c :: r := by
            cases l with
            | nil => exact absurd rfl h1
            | cons c r => exact ⟨c, r, rfl⟩
          have ev : PySem.intText? (SX.S (c :: r)) = some ((NumText.digitsVal (c :: r) : Nat) : Int) := SX.int_S ed (by simp) (by omega)
          have last : ∀ o, (¬ ((c :: r).head? = some 48 ∧ (c :: r) ≠ [48])) → trSs (TB cl__sound_figures) (GM cl__sound_figures) t1__sound_figures (UD Q E) [some (.str (SX.S (c :: r))), o] G1 := fun o z => by
            rw [if_neg z] at q
            simp only [inH_xc, inH_fn, inH_gl, trJ, uFmt, uXf, uXi, gam_hf, gam_xc, tab_kin, trSs, trS, trE, trT, trX, pl, trA, trO, trC, trI, uBin_s, uUn_s, uVar_s, uC_s, getS, setS, uOp, uAdd, uSub, uMul, uDiv, uMod, uPow, uNeg, uCmp, uEqF, uLt, uLe, uGt, uGe, uIsF, isNonU, uTru, Blt.fn, uAbs, uMax2, uMin2, uInt, startU, gam_fn, gam_gl, tab_xcs, tab_sub, UD_nx, UD_rt, UD_bk, UD_ct, UD_ex, spAt, glAt, gls, List.map_cons, List.map_nil, List.cons_append, List.nil_append, List.length_cons, List.length_nil, List.replicate, Nat.reduceAdd, Nat.reduceSub, Nat.zero_add, reduceIte, Bool.false_eq_true, Bool.true_eq_false, Bool.false_bne, Bool.true_bne, Bool.not_true, Bool.not_false, Bool.not_not, List.reverse_cons, List.reverse_nil, Option.map_some, Option.map_none, up_same, uSet, atI_zero, atI_one, ixN_20, ixN_zero, List.set_cons_zero, uPow, t1__sound_figures]
            simp only [ev]
            exact ⟨by rw [SX.S_len]; omega, fin.of (q G1 L1)⟩
          simp only [inH_xc, inH_fn, inH_gl, trJ, uFmt, uXf, uXi, gam_hf, gam_xc, tab_kin, trSs, trS, trE, trT, trX, pl, trA, trO, trC, trI, uBin_s, uUn_s, uVar_s, uC_s, getS, setS, uOp, uAdd, uSub, uMul, uDiv, uMod, uPow, uNeg, uCmp, uEqF, uLt, uLe, uGt, uGe, uIsF, isNonU, uTru, Blt.fn, uAbs, uMax2, uMin2, uInt, startU, gam_fn, gam_gl, tab_xcs, tab_sub, UD_nx, UD_rt, UD_bk, UD_ct, UD_ex, spAt, glAt, gls, List.map_cons, List.map_nil, List.cons_append, List.nil_append, List.length_cons, List.length_nil, List.replicate, Nat.reduceAdd, Nat.reduceSub, Nat.zero_add, reduceIte, Bool.false_eq_true, Bool.true_eq_false, Bool.false_bne, Bool.true_bne, Bool.not_true, Bool.not_false, Bool.not_not, List.reverse_cons, List.reverse_nil, Option.map_some, Option.map_none, up_same, uSet, atI_zero, atI_one, ixN_20, ixN_zero, List.set_cons_zero, uPow, t2__sound_figures, uIx]
          refine ⟨by rw [SX.S_len]; omega, ?_⟩
          rw [atN_zero]
          simp only [inH_xc, inH_fn, inH_gl, trJ, uFmt, uXf, uXi, gam_hf, gam_xc, tab_kin, trSs, trS, trE, trT, trX, pl, trA, trO, trC, trI, uBin_s, uUn_s, uVar_s, uC_s, getS, setS, uOp, uAdd, uSub, uMul, uDiv, uMod, uPow, uNeg, uCmp, uEqF, uLt, uLe, uGt, uGe, uIsF, isNonU, uTru, Blt.fn, uAbs, uMax2, uMin2, uInt, startU, gam_fn, gam_gl, tab_xcs, tab_sub, UD_nx, UD_rt, UD_bk, UD_ct, UD_ex, spAt, glAt, gls, List.map_cons, List.map_nil, List.cons_append, List.nil_append, List.length_cons, List.length_nil, List.replicate, Nat.reduceAdd, Nat.reduceSub, Nat.zero_add, reduceIte, Bool.false_eq_true, Bool.true_eq_false, Bool.false_bne, Bool.true_bne, Bool.not_true, Bool.not_false, Bool.not_not, List.reverse_cons, List.reverse_nil, Option.map_some, Option.map_none, up_same, uSet, atI_zero, atI_one, ixN_20, ixN_zero, List.set_cons_zero, uPow, show (⟨#[c]⟩ : Str) = SX.S [c] from rfl, S_lit, show TL.tl (Str.ofString "0") = [48] from rfl]
          by_cases h3 : [c] = [48]
          · simp only [inH_xc, inH_fn, inH_gl, trJ, uFmt, uXf, uXi, gam_hf, gam_xc, tab_kin, trSs, trS, trE, trT, trX, pl, trA, trO, trC, trI, uBin_s, uUn_s, uVar_s, uC_s, getS, setS, uOp, uAdd, uSub, uMul, uDiv, uMod, uPow, uNeg, uCmp, uEqF, uLt, uLe, uGt, uGe, uIsF, isNonU, uTru, Blt.fn, uAbs, uMax2, uMin2, uInt, startU, gam_fn, gam_gl, tab_xcs, tab_sub, UD_nx, UD_rt, UD_bk, UD_ct, UD_ex, spAt, glAt, gls, List.map_cons, List.map_nil, List.cons_append, List.nil_append, List.length_cons, List.length_nil, List.replicate, Nat.reduceAdd, Nat.reduceSub, Nat.zero_add, reduceIte, Bool.false_eq_true, Bool.true_eq_false, Bool.false_bne, Bool.true_bne, Bool.not_true, Bool.not_false, Bool.not_not, List.reverse_cons, List.reverse_nil, Option.map_some, Option.map_none, up_same, uSet, atI_zero, atI_one, ixN_20, ixN_zero, List.set_cons_zero, uPow, h3, decide_true]
            have h3 : c = 48 := by simpa using h3
            by_cases h4 : c :: r = [48]
            · simp only [inH_xc, inH_fn, inH_gl, trJ, uFmt, uXf, uXi, gam_hf, gam_xc, tab_kin, trSs, trS, trE, trT, trX, pl, trA, trO, trC, trI, uBin_s, uUn_s, uVar_s, uC_s, getS, setS, uOp, uAdd, uSub, uMul, uDiv, uMod, uPow, uNeg, uCmp, uEqF, uLt, uLe, uGt, uGe, uIsF, isNonU, uTru, Blt.fn, uAbs, uMax2, uMin2, uInt, startU, gam_fn, gam_gl, tab_xcs, tab_sub, UD_nx, UD_rt, UD_bk, UD_ct, UD_ex, spAt, glAt, gls, List.map_cons, List.map_nil, List.cons_append, List.nil_append, List.length_cons, List.length_nil, List.replicate, Nat.reduceAdd, Nat.reduceSub, Nat.zero_add, reduceIte, Bool.false_eq_true, Bool.true_eq_false, Bool.false_bne, Bool.true_bne, Bool.not_true, Bool.not_false, Bool.not_not, List.reverse_cons, List.reverse_nil, Option.map_some, Option.map_none, up_same, uSet, atI_zero, atI_one, ixN_20, ixN_zero, List.set_cons_zero, uPow, h4, decide_true]
              rw [← h4]
              exact last _ (fun z => z.2 h4)
            · simp only [inH_xc, inH_fn, inH_gl, trJ, uFmt, uXf, uXi, gam_hf, gam_xc, tab_kin, trSs, trS, trE, trT, trX, pl, trA, trO, trC, trI, uBin_s, uUn_s, uVar_s, uC_s, getS, setS, uOp, uAdd, uSub, uMul, uDiv, uMod, uPow, uNeg, uCmp, uEqF, uLt, uLe, uGt, uGe, uIsF, isNonU, uTru, Blt.fn, uAbs, uMax2, uMin2, uInt, startU, gam_fn, gam_gl, tab_xcs, tab_sub, UD_nx, UD_rt, UD_bk, UD_ct, UD_ex, spAt, glAt, gls, List.map_cons, List.map_nil, List.cons_append, List.nil_append, List.length_cons, List.length_nil, List.replicate, Nat.reduceAdd, Nat.reduceSub, Nat.zero_add, reduceIte, Bool.false_eq_true, Bool.true_eq_false, Bool.false_bne, Bool.true_bne, Bool.not_true, Bool.not_false, Bool.not_not, List.reverse_cons, List.reverse_nil, Option.map_some, Option.map_none, up_same, uSet, atI_zero, atI_one, ixN_20, ixN_zero, List.set_cons_zero, uPow, h4, decide_false]
              rw [if_pos ⟨by rw [h3]; rfl, h4⟩] at q
              exact fin.of (q G1 L1)
          · simp only [inH_xc, inH_fn, inH_gl, trJ, uFmt, uXf, uXi, gam_hf, gam_xc, tab_kin, trSs, trS, trE, trT, trX, pl, trA, trO, trC, trI, uBin_s, uUn_s, uVar_s, uC_s, getS, setS, uOp, uAdd, uSub, uMul, uDiv, uMod, uPow, uNeg, uCmp, uEqF, uLt, uLe, uGt, uGe, uIsF, isNonU, uTru, Blt.fn, uAbs, uMax2, uMin2, uInt, startU, gam_fn, gam_gl, tab_xcs, tab_sub, UD_nx, UD_rt, UD_bk, UD_ct, UD_ex, spAt, glAt, gls, List.map_cons, List.map_nil, List.cons_append, List.nil_append, List.length_cons, List.length_nil, List.replicate, Nat.reduceAdd, Nat.reduceSub, Nat.zero_add, reduceIte, Bool.false_eq_true, Bool.true_eq_false, Bool.false_bne, Bool.true_bne, Bool.not_true, Bool.not_false, Bool.not_not, List.reverse_cons, List.reverse_nil, Option.map_some, Option.map_none, up_same, uSet, atI_zero, atI_one, ixN_20, ixN_zero, List.set_cons_zero, uPow, h3, decide_false]
            exact last _ (fun z => h3 (by have := z.1; simp only [List.head?_cons, Option.some.injEq] at this; rw [this]))
/-! ### _sound_worth -/
theorem tyInt {G : UH} {i : Int} : tyS G (.int i) := rfl
theorem cut_take (l : List Nat) (k : Nat) : cutS (SX.S l) none (some (k : Int)) = SX.S (l.take k) := by
  rw [C8.cutS_slice, SX.slice_to (by omega)]
  rfl
theorem cut_from (l : List Nat) (k : Nat) : cutS (SX.S l) (some (k : Int)) none = SX.S (l.drop k) := by
  rw [C8.cutS_slice, SX.slice_from (by omega)]
  rfl
def sp__sound_worth : USp := fun us G Q _ => ∃ l : List Nat, us = [.str (SX.S l)] ∧ l.length ≤ 1000000 ∧ ∀ G', Le G G' → Q (optI (worthP l)) G'
def cl__sound_worth : List (Str × USp) := [("_sound_figures", sp__sound_figures), ("is_worth", sp_is_worth)]
theorem w__sound_worth (us : List U) (G : UH) (Q : UK) (E : UXn → UH → Prop) (h : sp__sound_worth us G Q E) : trSs (TB cl__sound_worth) (GM cl__sound_worth) b__sound_worth (UD Q E) (startU n__sound_worth us) G := by
  obtain ⟨l, rfl, hl, q⟩ := h
  have lg := line_ge
  unfold worthP at q
  have h1 : decide (SX.S (l.take 1) = Str.ofString "-") = decide (l.head? = some 45) := by
    rw [S_lit]
    refine decide_eq_decide.mpr ?_
    cases l with
    | nil => simp; decide
    | cons c r => simp; exact ⟨fun z => by have : [c] = [45] := z; simpa using this, fun z => by subst z; rfl⟩
  have last : ∀ o1 u G', Le G G' → (∃ i : Int, u = .int i ∧ ((-1048575 ≤ i ∧ i ≤ 1048575 → ∀ G', Le G G' → Q (.int i) G') ∧ (¬ (-1048575 ≤ i ∧ i ≤ 1048575) → ∀ G', Le G G' → Q .non G'))) ∨ (u = .non ∧ ∀ G', Le G G' → Q .non G') → trSs (TB cl__sound_worth) (GM cl__sound_worth) t2__sound_worth (UD Q E) [some (.str (SX.S l)), o1, some u] G' := by
    intro o1 u G' l1 hu
    rcases hu with ⟨i, rfl, k1, k2⟩ | ⟨rfl, k⟩
    · simp only [inH_xc, inH_fn, inH_gl, trJ, uFmt, uXf, uXi, gam_hf, gam_xc, tab_kin, trSs, trS, trE, trT, trX, pl, trA, trO, trC, trI, uBin_s, uUn_s, uVar_s, uC_s, getS, setS, uOp, uAdd, uSub, uMul, uDiv, uMod, uPow, uNeg, uCmp, uEqF, uLt, uLe, uGt, uGe, uIsF, isNonU, uTru, Blt.fn, uAbs, uMax2, uMin2, uInt, startU, gam_fn, gam_gl, tab_xcs, tab_sub, UD_nx, UD_rt, UD_bk, UD_ct, UD_ex, spAt, glAt, gls, List.map_cons, List.map_nil, List.cons_append, List.nil_append, List.length_cons, List.length_nil, List.replicate, Nat.reduceAdd, Nat.reduceSub, Nat.zero_add, reduceIte, Bool.false_eq_true, Bool.true_eq_false, Bool.false_bne, Bool.true_bne, Bool.not_true, Bool.not_false, Bool.not_not, List.reverse_cons, List.reverse_nil, Option.map_some, Option.map_none, up_same, uSet, atI_zero, atI_one, ixN_20, ixN_zero, List.set_cons_zero, uPow, t2__sound_worth, cl__sound_worth]
      refine ⟨.int i, rfl, rfl, ?_⟩
      by_cases z : -1048575 ≤ i ∧ i ≤ 1048575
      · simp only [inH_xc, inH_fn, inH_gl, trJ, uFmt, uXf, uXi, gam_hf, gam_xc, tab_kin, trSs, trS, trE, trT, trX, pl, trA, trO, trC, trI, uBin_s, uUn_s, uVar_s, uC_s, getS, setS, uOp, uAdd, uSub, uMul, uDiv, uMod, uPow, uNeg, uCmp, uEqF, uLt, uLe, uGt, uGe, uIsF, isNonU, uTru, Blt.fn, uAbs, uMax2, uMin2, uInt, startU, gam_fn, gam_gl, tab_xcs, tab_sub, UD_nx, UD_rt, UD_bk, UD_ct, UD_ex, spAt, glAt, gls, List.map_cons, List.map_nil, List.cons_append, List.nil_append, List.length_cons, List.length_nil, List.replicate, Nat.reduceAdd, Nat.reduceSub, Nat.zero_add, reduceIte, Bool.false_eq_true, Bool.true_eq_false, Bool.false_bne, Bool.true_bne, Bool.not_true, Bool.not_false, Bool.not_not, List.reverse_cons, List.reverse_nil, Option.map_some, Option.map_none, up_same, uSet, atI_zero, atI_one, ixN_20, ixN_zero, List.set_cons_zero, uPow, show isW (.int i) = true from by simp [isW, z.1, z.2]]
        exact fin.of (k1 z G' l1)
      · simp only [inH_xc, inH_fn, inH_gl, trJ, uFmt, uXf, uXi, gam_hf, gam_xc, tab_kin, trSs, trS, trE, trT, trX, pl, trA, trO, trC, trI, uBin_s, uUn_s, uVar_s, uC_s, getS, setS, uOp, uAdd, uSub, uMul, uDiv, uMod, uPow, uNeg, uCmp, uEqF, uLt, uLe, uGt, uGe, uIsF, isNonU, uTru, Blt.fn, uAbs, uMax2, uMin2, uInt, startU, gam_fn, gam_gl, tab_xcs, tab_sub, UD_nx, UD_rt, UD_bk, UD_ct, UD_ex, spAt, glAt, gls, List.map_cons, List.map_nil, List.cons_append, List.nil_append, List.length_cons, List.length_nil, List.replicate, Nat.reduceAdd, Nat.reduceSub, Nat.zero_add, reduceIte, Bool.false_eq_true, Bool.true_eq_false, Bool.false_bne, Bool.true_bne, Bool.not_true, Bool.not_false, Bool.not_not, List.reverse_cons, List.reverse_nil, Option.map_some, Option.map_none, up_same, uSet, atI_zero, atI_one, ixN_20, ixN_zero, List.set_cons_zero, uPow, show isW (.int i) = false from by
          simp only [isW, ← Bool.decide_and]
          exact decide_eq_false z]
        exact fin.of (k2 z G' l1)
    · simp only [inH_xc, inH_fn, inH_gl, trJ, uFmt, uXf, uXi, gam_hf, gam_xc, tab_kin, trSs, trS, trE, trT, trX, pl, trA, trO, trC, trI, uBin_s, uUn_s, uVar_s, uC_s, getS, setS, uOp, uAdd, uSub, uMul, uDiv, uMod, uPow, uNeg, uCmp, uEqF, uLt, uLe, uGt, uGe, uIsF, isNonU, uTru, Blt.fn, uAbs, uMax2, uMin2, uInt, startU, gam_fn, gam_gl, tab_xcs, tab_sub, UD_nx, UD_rt, UD_bk, UD_ct, UD_ex, spAt, glAt, gls, List.map_cons, List.map_nil, List.cons_append, List.nil_append, List.length_cons, List.length_nil, List.replicate, Nat.reduceAdd, Nat.reduceSub, Nat.zero_add, reduceIte, Bool.false_eq_true, Bool.true_eq_false, Bool.false_bne, Bool.true_bne, Bool.not_true, Bool.not_false, Bool.not_not, List.reverse_cons, List.reverse_nil, Option.map_some, Option.map_none, up_same, uSet, atI_zero, atI_one, ixN_20, ixN_zero, List.set_cons_zero, uPow, t2__sound_worth, cl__sound_worth]
      refine ⟨.non, rfl, rfl, ?_⟩
      simp only [inH_xc, inH_fn, inH_gl, trJ, uFmt, uXf, uXi, gam_hf, gam_xc, tab_kin, trSs, trS, trE, trT, trX, pl, trA, trO, trC, trI, uBin_s, uUn_s, uVar_s, uC_s, getS, setS, uOp, uAdd, uSub, uMul, uDiv, uMod, uPow, uNeg, uCmp, uEqF, uLt, uLe, uGt, uGe, uIsF, isNonU, uTru, Blt.fn, uAbs, uMax2, uMin2, uInt, startU, gam_fn, gam_gl, tab_xcs, tab_sub, UD_nx, UD_rt, UD_bk, UD_ct, UD_ex, spAt, glAt, gls, List.map_cons, List.map_nil, List.cons_append, List.nil_append, List.length_cons, List.length_nil, List.replicate, Nat.reduceAdd, Nat.reduceSub, Nat.zero_add, reduceIte, Bool.false_eq_true, Bool.true_eq_false, Bool.false_bne, Bool.true_bne, Bool.not_true, Bool.not_false, Bool.not_not, List.reverse_cons, List.reverse_nil, Option.map_some, Option.map_none, up_same, uSet, atI_zero, atI_one, ixN_20, ixN_zero, List.set_cons_zero, uPow, isW]
      exact fin.of (k G' l1)
  simp only [inH_xc, inH_fn, inH_gl, trJ, uFmt, uXf, uXi, gam_hf, gam_xc, tab_kin, trSs, trS, trE, trT, trX, pl, trA, trO, trC, trI, uBin_s, uUn_s, uVar_s, uC_s, getS, setS, uOp, uAdd, uSub, uMul, uDiv, uMod, uPow, uNeg, uCmp, uEqF, uLt, uLe, uGt, uGe, uIsF, isNonU, uTru, Blt.fn, uAbs, uMax2, uMin2, uInt, startU, gam_fn, gam_gl, tab_xcs, tab_sub, UD_nx, UD_rt, UD_bk, UD_ct, UD_ex, spAt, glAt, gls, List.map_cons, List.map_nil, List.cons_append, List.nil_append, List.length_cons, List.length_nil, List.replicate, Nat.reduceAdd, Nat.reduceSub, Nat.zero_add, reduceIte, Bool.false_eq_true, Bool.true_eq_false, Bool.false_bne, Bool.true_bne, Bool.not_true, Bool.not_false, Bool.not_not, List.reverse_cons, List.reverse_nil, Option.map_some, Option.map_none, up_same, uSet, atI_zero, atI_one, ixN_20, ixN_zero, List.set_cons_zero, uPow, b__sound_worth, n__sound_worth, cl__sound_worth, uSl]
  rw [show cutS (SX.S l) none (some 1) = SX.S (l.take 1) from cut_take l 1, h1]
  refine ⟨by rw [SX.S_len]; omega, ?_⟩
  by_cases hm : l.head? = some 45
  · simp only [inH_xc, inH_fn, inH_gl, trJ, uFmt, uXf, uXi, gam_hf, gam_xc, tab_kin, trSs, trS, trE, trT, trX, pl, trA, trO, trC, trI, uBin_s, uUn_s, uVar_s, uC_s, getS, setS, uOp, uAdd, uSub, uMul, uDiv, uMod, uPow, uNeg, uCmp, uEqF, uLt, uLe, uGt, uGe, uIsF, isNonU, uTru, Blt.fn, uAbs, uMax2, uMin2, uInt, startU, gam_fn, gam_gl, tab_xcs, tab_sub, UD_nx, UD_rt, UD_bk, UD_ct, UD_ex, spAt, glAt, gls, List.map_cons, List.map_nil, List.cons_append, List.nil_append, List.length_cons, List.length_nil, List.replicate, Nat.reduceAdd, Nat.reduceSub, Nat.zero_add, reduceIte, Bool.false_eq_true, Bool.true_eq_false, Bool.false_bne, Bool.true_bne, Bool.not_true, Bool.not_false, Bool.not_not, List.reverse_cons, List.reverse_nil, Option.map_some, Option.map_none, up_same, uSet, atI_zero, atI_one, ixN_20, ixN_zero, List.set_cons_zero, uPow, hm, decide_true, trG, uSl, t1__sound_worth]
    rw [if_pos hm] at q
    rw [show cutS (SX.S l) (some 1) none = SX.S (l.drop 1) from cut_from l 1]
    refine ⟨by rw [SX.S_len]; omega, l.drop 1, rfl, by rw [List.length_drop]; omega, fun G1 l1 => ?_⟩
    rw [show l.tail = l.drop 1 from (List.drop_one).symm] at q
    unfold negP at q
    cases e : figs (l.drop 1) with
    | none =>
      rw [e] at q
      simp only [inH_xc, inH_fn, inH_gl, trJ, uFmt, uXf, uXi, gam_hf, gam_xc, tab_kin, trSs, trS, trE, trT, trX, pl, trA, trO, trC, trI, uBin_s, uUn_s, uVar_s, uC_s, getS, setS, uOp, uAdd, uSub, uMul, uDiv, uMod, uPow, uNeg, uCmp, uEqF, uLt, uLe, uGt, uGe, uIsF, isNonU, uTru, Blt.fn, uAbs, uMax2, uMin2, uInt, startU, gam_fn, gam_gl, tab_xcs, tab_sub, UD_nx, UD_rt, UD_bk, UD_ct, UD_ex, spAt, glAt, gls, List.map_cons, List.map_nil, List.cons_append, List.nil_append, List.length_cons, List.length_nil, List.replicate, Nat.reduceAdd, Nat.reduceSub, Nat.zero_add, reduceIte, Bool.false_eq_true, Bool.true_eq_false, Bool.false_bne, Bool.true_bne, Bool.not_true, Bool.not_false, Bool.not_not, List.reverse_cons, List.reverse_nil, Option.map_some, Option.map_none, up_same, uSet, atI_zero, atI_one, ixN_20, ixN_zero, List.set_cons_zero, uPow, optN, t1__sound_worth, trG, uIsF, isNonU]
      exact last _ _ G1 l1 (.inr ⟨rfl, q⟩)
    | some n =>
      rw [e] at q
      simp only at q
      simp only [inH_xc, inH_fn, inH_gl, trJ, uFmt, uXf, uXi, gam_hf, gam_xc, tab_kin, trSs, trS, trE, trT, trX, pl, trA, trO, trC, trI, uBin_s, uUn_s, uVar_s, uC_s, getS, setS, uOp, uAdd, uSub, uMul, uDiv, uMod, uPow, uNeg, uCmp, uEqF, uLt, uLe, uGt, uGe, uIsF, isNonU, uTru, Blt.fn, uAbs, uMax2, uMin2, uInt, startU, gam_fn, gam_gl, tab_xcs, tab_sub, UD_nx, UD_rt, UD_bk, UD_ct, UD_ex, spAt, glAt, gls, List.map_cons, List.map_nil, List.cons_append, List.nil_append, List.length_cons, List.length_nil, List.replicate, Nat.reduceAdd, Nat.reduceSub, Nat.zero_add, reduceIte, Bool.false_eq_true, Bool.true_eq_false, Bool.false_bne, Bool.true_bne, Bool.not_true, Bool.not_false, Bool.not_not, List.reverse_cons, List.reverse_nil, Option.map_some, Option.map_none, up_same, uSet, atI_zero, atI_one, ixN_20, ixN_zero, List.set_cons_zero, uPow, optN, t1__sound_worth, trG, uIsF, isNonU]
      by_cases h0 : n = 0
      · rw [if_pos (.inl h0)] at q
        simp only [inH_xc, inH_fn, inH_gl, trJ, uFmt, uXf, uXi, gam_hf, gam_xc, tab_kin, trSs, trS, trE, trT, trX, pl, trA, trO, trC, trI, uBin_s, uUn_s, uVar_s, uC_s, getS, setS, uOp, uAdd, uSub, uMul, uDiv, uMod, uPow, uNeg, uCmp, uEqF, uLt, uLe, uGt, uGe, uIsF, isNonU, uTru, Blt.fn, uAbs, uMax2, uMin2, uInt, startU, gam_fn, gam_gl, tab_xcs, tab_sub, UD_nx, UD_rt, UD_bk, UD_ct, UD_ex, spAt, glAt, gls, List.map_cons, List.map_nil, List.cons_append, List.nil_append, List.length_cons, List.length_nil, List.replicate, Nat.reduceAdd, Nat.reduceSub, Nat.zero_add, reduceIte, Bool.false_eq_true, Bool.true_eq_false, Bool.false_bne, Bool.true_bne, Bool.not_true, Bool.not_false, Bool.not_not, List.reverse_cons, List.reverse_nil, Option.map_some, Option.map_none, up_same, uSet, atI_zero, atI_one, ixN_20, ixN_zero, List.set_cons_zero, uPow, h0, show decide (((0 : Nat) : Int) = 0) = true from rfl]
        exact last _ _ G1 l1 (.inr ⟨rfl, q⟩)
      · simp only [inH_xc, inH_fn, inH_gl, trJ, uFmt, uXf, uXi, gam_hf, gam_xc, tab_kin, trSs, trS, trE, trT, trX, pl, trA, trO, trC, trI, uBin_s, uUn_s, uVar_s, uC_s, getS, setS, uOp, uAdd, uSub, uMul, uDiv, uMod, uPow, uNeg, uCmp, uEqF, uLt, uLe, uGt, uGe, uIsF, isNonU, uTru, Blt.fn, uAbs, uMax2, uMin2, uInt, startU, gam_fn, gam_gl, tab_xcs, tab_sub, UD_nx, UD_rt, UD_bk, UD_ct, UD_ex, spAt, glAt, gls, List.map_cons, List.map_nil, List.cons_append, List.nil_append, List.length_cons, List.length_nil, List.replicate, Nat.reduceAdd, Nat.reduceSub, Nat.zero_add, reduceIte, Bool.false_eq_true, Bool.true_eq_false, Bool.false_bne, Bool.true_bne, Bool.not_true, Bool.not_false, Bool.not_not, List.reverse_cons, List.reverse_nil, Option.map_some, Option.map_none, up_same, uSet, atI_zero, atI_one, ixN_20, ixN_zero, List.set_cons_zero, uPow, show decide (((n : Nat) : Int) = 0) = false from decide_eq_false (by omega)]
        refine last _ _ G1 l1 (.inl ⟨-(n : Int), rfl, fun z => ?_, fun z => ?_⟩)
        · rw [if_neg (by omega)] at q
          exact q
        · rw [if_pos (by omega)] at q
          exact q
  · simp only [inH_xc, inH_fn, inH_gl, trJ, uFmt, uXf, uXi, gam_hf, gam_xc, tab_kin, trSs, trS, trE, trT, trX, pl, trA, trO, trC, trI, uBin_s, uUn_s, uVar_s, uC_s, getS, setS, uOp, uAdd, uSub, uMul, uDiv, uMod, uPow, uNeg, uCmp, uEqF, uLt, uLe, uGt, uGe, uIsF, isNonU, uTru, Blt.fn, uAbs, uMax2, uMin2, uInt, startU, gam_fn, gam_gl, tab_xcs, tab_sub, UD_nx, UD_rt, UD_bk, UD_ct, UD_ex, spAt, glAt, gls, List.map_cons, List.map_nil, List.cons_append, List.nil_append, List.length_cons, List.length_nil, List.replicate, Nat.reduceAdd, Nat.reduceSub, Nat.zero_add, reduceIte, Bool.false_eq_true, Bool.true_eq_false, Bool.false_bne, Bool.true_bne, Bool.not_true, Bool.not_false, Bool.not_not, List.reverse_cons, List.reverse_nil, Option.map_some, Option.map_none, up_same, uSet, atI_zero, atI_one, ixN_20, ixN_zero, List.set_cons_zero, uPow, hm, decide_false, trG]
    rw [if_neg hm] at q
    refine ⟨l, rfl, hl, fun G1 l1 => ?_⟩
    unfold posP at q
    cases e : figs l with
    | none =>
      rw [e] at q
      exact last _ _ G1 l1 (.inr ⟨rfl, q⟩)
    | some n =>
      rw [e] at q
      simp only at q
      refine last _ _ G1 l1 (.inl ⟨(n : Int), rfl, fun z => ?_, fun z => ?_⟩)
      · rw [if_neg (by omega)] at q
        exact q
      · rw [if_pos (by omega)] at q
        exact q
/-! ### _sound_stretch -/
theorem split_1 {c : Nat} (hc : c < 256) (l : List Nat) : Txt.split (SX.S l) (SX.S [c]) = (TL.spl [c] 0 [] l).map SX.S := SX.split_S (by simp) (by simp [hc])
theorem spl_len {c : Nat} (hc : c < 256) {l p : List Nat} (h : p ∈ TL.spl [c] 0 [] l) : p.length ≤ l.length := by
  have := PyProof.Rows.part_short (x := SX.S l) (y := SX.S [c]) (a := SX.S p) (by rw [split_1 hc]; exact List.mem_map_of_mem h)
  rwa [SX.S_len, SX.S_len] at this
theorem spl_cnt {c : Nat} (hc : c < 256) (l : List Nat) : ((TL.spl [c] 0 [] l).map (·.length)).sum + (TL.spl [c] 0 [] l).length ≤ l.length + 1 := by
  have := PyProof.Rows.split_weight (SX.S l) (SX.S [c]) (by rw [SX.S_len]; exact Nat.le_refl _)
  rw [split_1 hc, SX.lens, List.length_map, SX.S_len] at this
  exact this
def sp__sound_stretch : USp := fun us G Q _ => ∃ l : List Nat, us = [.str (SX.S l)] ∧ l.length ≤ 1000000 ∧ ∀ G', Le G G' → Q (optP (stretchP l)) G'
def cl__sound_stretch : List (Str × USp) := [("_sound_figures", sp__sound_figures), ("_sound_worth", sp__sound_worth)]
theorem w__sound_stretch (us : List U) (G : UH) (Q : UK) (E : UXn → UH → Prop) (h : sp__sound_stretch us G Q E) : trSs (TB cl__sound_stretch) (GM cl__sound_stretch) b__sound_stretch (UD Q E) (startU n__sound_stretch us) G := by
  obtain ⟨l, rfl, hl, q⟩ := h
  have lg := line_ge
  unfold stretchP at q
  simp only [inH_xc, inH_fn, inH_gl, trJ, uFmt, uXf, uXi, gam_hf, gam_xc, tab_kin, trSs, trS, trE, trT, trX, pl, trA, trO, trC, trI, uBin_s, uUn_s, uVar_s, uC_s, getS, setS, uOp, uAdd, uSub, uMul, uDiv, uMod, uPow, uNeg, uCmp, uEqF, uLt, uLe, uGt, uGe, uIsF, isNonU, uTru, Blt.fn, uAbs, uMax2, uMin2, uInt, startU, gam_fn, gam_gl, tab_xcs, tab_sub, UD_nx, UD_rt, UD_bk, UD_ct, UD_ex, spAt, glAt, gls, List.map_cons, List.map_nil, List.cons_append, List.nil_append, List.length_cons, List.length_nil, List.replicate, Nat.reduceAdd, Nat.reduceSub, Nat.zero_add, reduceIte, Bool.false_eq_true, Bool.true_eq_false, Bool.false_bne, Bool.true_bne, Bool.not_true, Bool.not_false, Bool.not_not, List.reverse_cons, List.reverse_nil, Option.map_some, Option.map_none, up_same, uSet, atI_zero, atI_one, ixN_20, ixN_zero, List.set_cons_zero, uPow, b__sound_stretch, n__sound_stretch, cl__sound_stretch, Mth.T, Mth.fn, mTy, trG]
  rw [show Str.ofString "*" = SX.S [42] from rfl, split_1 (by decide)]
  refine ⟨trivial, rfl, by rw [SX.S_len]; omega, fun p hp => ?_⟩
  have hb := fun (x : List Nat) (hx : x ∈ TL.spl [42] 0 [] l) => spl_len (by decide) hx
  generalize TL.spl [42] 0 [] l = ps at q hb ⊢
  have L1 := Le.new (o := .lst (wU ps)) hp
  have e1 : UL.up G p (.lst (wU ps)) p = some (.lst (wU ps)) := up_same
  generalize UL.up G p _ = G1 at L1 e1 ⊢
  simp only [inH_xc, inH_fn, inH_gl, trJ, uFmt, uXf, uXi, gam_hf, gam_xc, tab_kin, trSs, trS, trE, trT, trX, pl, trA, trO, trC, trI, uBin_s, uUn_s, uVar_s, uC_s, getS, setS, uOp, uAdd, uSub, uMul, uDiv, uMod, uPow, uNeg, uCmp, uEqF, uLt, uLe, uGt, uGe, uIsF, isNonU, uTru, Blt.fn, uAbs, uMax2, uMin2, uInt, startU, gam_fn, gam_gl, tab_xcs, tab_sub, UD_nx, UD_rt, UD_bk, UD_ct, UD_ex, spAt, glAt, gls, List.map_cons, List.map_nil, List.cons_append, List.nil_append, List.length_cons, List.length_nil, List.replicate, Nat.reduceAdd, Nat.reduceSub, Nat.zero_add, reduceIte, Bool.false_eq_true, Bool.true_eq_false, Bool.false_bne, Bool.true_bne, Bool.not_true, Bool.not_false, Bool.not_not, List.reverse_cons, List.reverse_nil, Option.map_some, Option.map_none, up_same, uSet, atI_zero, atI_one, ixN_20, ixN_zero, List.set_cons_zero, uPow, t4__sound_stretch, cl__sound_stretch]
  refine len_sq (.inr ⟨_, rfl, e1⟩) ?_
  simp only [inH_xc, inH_fn, inH_gl, trJ, uFmt, uXf, uXi, gam_hf, gam_xc, tab_kin, trSs, trS, trE, trT, trX, pl, trA, trO, trC, trI, uBin_s, uUn_s, uVar_s, uC_s, getS, setS, uOp, uAdd, uSub, uMul, uDiv, uMod, uPow, uNeg, uCmp, uEqF, uLt, uLe, uGt, uGe, uIsF, isNonU, uTru, Blt.fn, uAbs, uMax2, uMin2, uInt, startU, gam_fn, gam_gl, tab_xcs, tab_sub, UD_nx, UD_rt, UD_bk, UD_ct, UD_ex, spAt, glAt, gls, List.map_cons, List.map_nil, List.cons_append, List.nil_append, List.length_cons, List.length_nil, List.replicate, Nat.reduceAdd, Nat.reduceSub, Nat.zero_add, reduceIte, Bool.false_eq_true, Bool.true_eq_false, Bool.false_bne, Bool.true_bne, Bool.not_true, Bool.not_false, Bool.not_not, List.reverse_cons, List.reverse_nil, Option.map_some, Option.map_none, up_same, uSet, atI_zero, atI_one, ixN_20, ixN_zero, List.set_cons_zero, uPow, List.length_map]
  by_cases h2 : ps.length = 2
  · obtain ⟨a, b, rfl⟩ : ∃ a b, ps = [a, b] := by
      match ps, h2 with
      | [a, b], _ => exact ⟨a, b, rfl⟩
    have e1' : SqU G1 (.ref p) [.str (SX.S a), .str (SX.S b)] := .inr ⟨_, rfl, e1⟩
    simp only [inH_xc, inH_fn, inH_gl, trJ, uFmt, uXf, uXi, gam_hf, gam_xc, tab_kin, trSs, trS, trE, trT, trX, pl, trA, trO, trC, trI, uBin_s, uUn_s, uVar_s, uC_s, getS, setS, uOp, uAdd, uSub, uMul, uDiv, uMod, uPow, uNeg, uCmp, uEqF, uLt, uLe, uGt, uGe, uIsF, isNonU, uTru, Blt.fn, uAbs, uMax2, uMin2, uInt, startU, gam_fn, gam_gl, tab_xcs, tab_sub, UD_nx, UD_rt, UD_bk, UD_ct, UD_ex, spAt, glAt, gls, List.map_cons, List.map_nil, List.cons_append, List.nil_append, List.length_cons, List.length_nil, List.replicate, Nat.reduceAdd, Nat.reduceSub, Nat.zero_add, reduceIte, Bool.false_eq_true, Bool.true_eq_false, Bool.false_bne, Bool.true_bne, Bool.not_true, Bool.not_false, Bool.not_not, List.reverse_cons, List.reverse_nil, Option.map_some, Option.map_none, up_same, uSet, atI_zero, atI_one, ixN_20, ixN_zero, List.set_cons_zero, uPow, show decide (((2 : Nat) : Int) = 2) = true from rfl, t3__sound_stretch, cl__sound_stretch]
    refine ix_sq e1' atI_zero ?_
    refine ⟨a, rfl, by have := hb a (by simp); omega, fun G2 l2 => ?_⟩
    simp only [inH_xc, inH_fn, inH_gl, trJ, uFmt, uXf, uXi, gam_hf, gam_xc, tab_kin, trSs, trS, trE, trT, trX, pl, trA, trO, trC, trI, uBin_s, uUn_s, uVar_s, uC_s, getS, setS, uOp, uAdd, uSub, uMul, uDiv, uMod, uPow, uNeg, uCmp, uEqF, uLt, uLe, uGt, uGe, uIsF, isNonU, uTru, Blt.fn, uAbs, uMax2, uMin2, uInt, startU, gam_fn, gam_gl, tab_xcs, tab_sub, UD_nx, UD_rt, UD_bk, UD_ct, UD_ex, spAt, glAt, gls, List.map_cons, List.map_nil, List.cons_append, List.nil_append, List.length_cons, List.length_nil, List.replicate, Nat.reduceAdd, Nat.reduceSub, Nat.zero_add, reduceIte, Bool.false_eq_true, Bool.true_eq_false, Bool.false_bne, Bool.true_bne, Bool.not_true, Bool.not_false, Bool.not_not, List.reverse_cons, List.reverse_nil, Option.map_some, Option.map_none, up_same, uSet, atI_zero, atI_one, ixN_20, ixN_zero, List.set_cons_zero, uPow]
    refine ix_sq (e1'.le l2) atI_one ?_
    refine ⟨b, rfl, by have := hb b (by simp); omega, fun G3 l3 => ?_⟩
    have l4 := (L1.trans l2).trans l3
    cases ew : worthP a with
    | none =>
      simp only [pairP, ew] at q
      simp only [inH_xc, inH_fn, inH_gl, trJ, uFmt, uXf, uXi, gam_hf, gam_xc, tab_kin, trSs, trS, trE, trT, trX, pl, trA, trO, trC, trI, uBin_s, uUn_s, uVar_s, uC_s, getS, setS, uOp, uAdd, uSub, uMul, uDiv, uMod, uPow, uNeg, uCmp, uEqF, uLt, uLe, uGt, uGe, uIsF, isNonU, uTru, Blt.fn, uAbs, uMax2, uMin2, uInt, startU, gam_fn, gam_gl, tab_xcs, tab_sub, UD_nx, UD_rt, UD_bk, UD_ct, UD_ex, spAt, glAt, gls, List.map_cons, List.map_nil, List.cons_append, List.nil_append, List.length_cons, List.length_nil, List.replicate, Nat.reduceAdd, Nat.reduceSub, Nat.zero_add, reduceIte, Bool.false_eq_true, Bool.true_eq_false, Bool.false_bne, Bool.true_bne, Bool.not_true, Bool.not_false, Bool.not_not, List.reverse_cons, List.reverse_nil, Option.map_some, Option.map_none, up_same, uSet, atI_zero, atI_one, ixN_20, ixN_zero, List.set_cons_zero, uPow, t2__sound_stretch, optI, uIsF, isNonU]
      exact fin.of (q G3 l4)
    | some w =>
      cases em : figs b with
      | none =>
        simp only [pairP, ew, em] at q
        simp only [inH_xc, inH_fn, inH_gl, trJ, uFmt, uXf, uXi, gam_hf, gam_xc, tab_kin, trSs, trS, trE, trT, trX, pl, trA, trO, trC, trI, uBin_s, uUn_s, uVar_s, uC_s, getS, setS, uOp, uAdd, uSub, uMul, uDiv, uMod, uPow, uNeg, uCmp, uEqF, uLt, uLe, uGt, uGe, uIsF, isNonU, uTru, Blt.fn, uAbs, uMax2, uMin2, uInt, startU, gam_fn, gam_gl, tab_xcs, tab_sub, UD_nx, UD_rt, UD_bk, UD_ct, UD_ex, spAt, glAt, gls, List.map_cons, List.map_nil, List.cons_append, List.nil_append, List.length_cons, List.length_nil, List.replicate, Nat.reduceAdd, Nat.reduceSub, Nat.zero_add, reduceIte, Bool.false_eq_true, Bool.true_eq_false, Bool.false_bne, Bool.true_bne, Bool.not_true, Bool.not_false, Bool.not_not, List.reverse_cons, List.reverse_nil, Option.map_some, Option.map_none, up_same, uSet, atI_zero, atI_one, ixN_20, ixN_zero, List.set_cons_zero, uPow, t2__sound_stretch, optI, optN, uIsF, isNonU]
        exact fin.of (q G3 l4)
      | some m =>
        simp only [pairP, ew, em] at q
        simp only [inH_xc, inH_fn, inH_gl, trJ, uFmt, uXf, uXi, gam_hf, gam_xc, tab_kin, trSs, trS, trE, trT, trX, pl, trA, trO, trC, trI, uBin_s, uUn_s, uVar_s, uC_s, getS, setS, uOp, uAdd, uSub, uMul, uDiv, uMod, uPow, uNeg, uCmp, uEqF, uLt, uLe, uGt, uGe, uIsF, isNonU, uTru, Blt.fn, uAbs, uMax2, uMin2, uInt, startU, gam_fn, gam_gl, tab_xcs, tab_sub, UD_nx, UD_rt, UD_bk, UD_ct, UD_ex, spAt, glAt, gls, List.map_cons, List.map_nil, List.cons_append, List.nil_append, List.length_cons, List.length_nil, List.replicate, Nat.reduceAdd, Nat.reduceSub, Nat.zero_add, reduceIte, Bool.false_eq_true, Bool.true_eq_false, Bool.false_bne, Bool.true_bne, Bool.not_true, Bool.not_false, Bool.not_not, List.reverse_cons, List.reverse_nil, Option.map_some, Option.map_none, up_same, uSet, atI_zero, atI_one, ixN_20, ixN_zero, List.set_cons_zero, uPow, t2__sound_stretch, optI, optN, uIsF, isNonU]
        by_cases h0 : m = 0
        · rw [if_pos h0] at q
          simp only [inH_xc, inH_fn, inH_gl, trJ, uFmt, uXf, uXi, gam_hf, gam_xc, tab_kin, trSs, trS, trE, trT, trX, pl, trA, trO, trC, trI, uBin_s, uUn_s, uVar_s, uC_s, getS, setS, uOp, uAdd, uSub, uMul, uDiv, uMod, uPow, uNeg, uCmp, uEqF, uLt, uLe, uGt, uGe, uIsF, isNonU, uTru, Blt.fn, uAbs, uMax2, uMin2, uInt, startU, gam_fn, gam_gl, tab_xcs, tab_sub, UD_nx, UD_rt, UD_bk, UD_ct, UD_ex, spAt, glAt, gls, List.map_cons, List.map_nil, List.cons_append, List.nil_append, List.length_cons, List.length_nil, List.replicate, Nat.reduceAdd, Nat.reduceSub, Nat.zero_add, reduceIte, Bool.false_eq_true, Bool.true_eq_false, Bool.false_bne, Bool.true_bne, Bool.not_true, Bool.not_false, Bool.not_not, List.reverse_cons, List.reverse_nil, Option.map_some, Option.map_none, up_same, uSet, atI_zero, atI_one, ixN_20, ixN_zero, List.set_cons_zero, uPow, h0, show decide (((0 : Nat) : Int) = 0) = true from rfl]
          exact fin.of (q G3 l4)
        · rw [if_neg h0] at q
          simp only [inH_xc, inH_fn, inH_gl, trJ, uFmt, uXf, uXi, gam_hf, gam_xc, tab_kin, trSs, trS, trE, trT, trX, pl, trA, trO, trC, trI, uBin_s, uUn_s, uVar_s, uC_s, getS, setS, uOp, uAdd, uSub, uMul, uDiv, uMod, uPow, uNeg, uCmp, uEqF, uLt, uLe, uGt, uGe, uIsF, isNonU, uTru, Blt.fn, uAbs, uMax2, uMin2, uInt, startU, gam_fn, gam_gl, tab_xcs, tab_sub, UD_nx, UD_rt, UD_bk, UD_ct, UD_ex, spAt, glAt, gls, List.map_cons, List.map_nil, List.cons_append, List.nil_append, List.length_cons, List.length_nil, List.replicate, Nat.reduceAdd, Nat.reduceSub, Nat.zero_add, reduceIte, Bool.false_eq_true, Bool.true_eq_false, Bool.false_bne, Bool.true_bne, Bool.not_true, Bool.not_false, Bool.not_not, List.reverse_cons, List.reverse_nil, Option.map_some, Option.map_none, up_same, uSet, atI_zero, atI_one, ixN_20, ixN_zero, List.set_cons_zero, uPow, show decide (((m : Nat) : Int) = 0) = false from decide_eq_false (by omega), t1__sound_stretch]
          exact ⟨by omega, fin.of (q G3 l4)⟩
  · simp only [inH_xc, inH_fn, inH_gl, trJ, uFmt, uXf, uXi, gam_hf, gam_xc, tab_kin, trSs, trS, trE, trT, trX, pl, trA, trO, trC, trI, uBin_s, uUn_s, uVar_s, uC_s, getS, setS, uOp, uAdd, uSub, uMul, uDiv, uMod, uPow, uNeg, uCmp, uEqF, uLt, uLe, uGt, uGe, uIsF, isNonU, uTru, Blt.fn, uAbs, uMax2, uMin2, uInt, startU, gam_fn, gam_gl, tab_xcs, tab_sub, UD_nx, UD_rt, UD_bk, UD_ct, UD_ex, spAt, glAt, gls, List.map_cons, List.map_nil, List.cons_append, List.nil_append, List.length_cons, List.length_nil, List.replicate, Nat.reduceAdd, Nat.reduceSub, Nat.zero_add, reduceIte, Bool.false_eq_true, Bool.true_eq_false, Bool.false_bne, Bool.true_bne, Bool.not_true, Bool.not_false, Bool.not_not, List.reverse_cons, List.reverse_nil, Option.map_some, Option.map_none, up_same, uSet, atI_zero, atI_one, ixN_20, ixN_zero, List.set_cons_zero, uPow, show decide (((ps.length : Nat) : Int) = 2) = false from decide_eq_false (by omega)]
    have : pairP ps = none := by
      unfold pairP
      split
      · exact absurd rfl h2
      · rfl
    rw [this] at q
    exact fin.of (q G1 L1)
/-! ### _sound_text_stated -/
def okc (c : Nat) : Bool := decide (c = 10) || (decide (32 ≤ c) && decide (c ≤ 126) && !decide (c = 37))
def sp__sound_text_stated : USp := fun us G Q _ => ∃ u, us = [u] ∧ tyS G u ∧ (kS u = false → Q (.bl false) G) ∧ (∀ z, u = .str z → ∃ l, z = SX.S l ∧ l.length ≤ 1000000 ∧ ∀ G', Le G G' → Q (.bl (l.all okc)) G')
def cl__sound_text_stated : List (Str × USp) := []
theorem okc_false {c : Nat} (h : (c ≠ 10 ∧ (c < 32 ∨ 126 < c)) ∨ c = 37) : okc c = false := by
  unfold okc
  rcases h with ⟨h1, h2⟩ | h
  · rw [decide_eq_false h1]
    rcases h2 with h2 | h2
    · rw [decide_eq_false (show ¬ 32 ≤ c by omega)]; rfl
    · rw [decide_eq_false (show ¬ c ≤ 126 by omega), Bool.and_false]; rfl
  · subst h; rfl
theorem okc_true {c : Nat} (h1 : 32 ≤ c) (h2 : c ≤ 126) (h3 : c ≠ 37) : okc c = true := by
  unfold okc
  rw [decide_eq_true h1, decide_eq_true h2, decide_eq_false h3]
  simp
theorem one_lt (a b : Nat) : decide ([a] < [b]) = decide (a < b) := by
  refine decide_eq_decide.mpr ?_
  rw [List.cons_lt_cons_iff]
  exact ⟨fun z => z.elim id fun z => absurd z.2 (by decide), .inl⟩
theorem w__sound_text_stated (us : List U) (G : UH) (Q : UK) (E : UXn → UH → Prop) (h : sp__sound_text_stated us G Q E) : trSs (TB cl__sound_text_stated) (GM cl__sound_text_stated) b__sound_text_stated (UD Q E) (startU n__sound_text_stated us) G := by
  obtain ⟨u, rfl, ht, q1, q2⟩ := h
  have lg := line_ge
  simp only [inH_xc, inH_fn, inH_gl, trJ, uFmt, uXf, uXi, gam_hf, gam_xc, tab_kin, trSs, trS, trE, trT, trX, pl, trA, trO, trC, trI, uBin_s, uUn_s, uVar_s, uC_s, getS, setS, uOp, uAdd, uSub, uMul, uDiv, uMod, uPow, uNeg, uCmp, uEqF, uLt, uLe, uGt, uGe, uIsF, isNonU, uTru, Blt.fn, uAbs, uMax2, uMin2, uInt, startU, gam_fn, gam_gl, tab_xcs, tab_sub, UD_nx, UD_rt, UD_bk, UD_ct, UD_ex, spAt, glAt, gls, List.map_cons, List.map_nil, List.cons_append, List.nil_append, List.length_cons, List.length_nil, List.replicate, Nat.reduceAdd, Nat.reduceSub, Nat.zero_add, reduceIte, Bool.false_eq_true, Bool.true_eq_false, Bool.false_bne, Bool.true_bne, Bool.not_true, Bool.not_false, Bool.not_not, List.reverse_cons, List.reverse_nil, Option.map_some, Option.map_none, up_same, uSet, atI_zero, atI_one, ixN_20, ixN_zero, List.set_cons_zero, uPow, b__sound_text_stated, n__sound_text_stated]
  refine isi_str ht ?_
  simp only [inH_xc, inH_fn, inH_gl, trJ, uFmt, uXf, uXi, gam_hf, gam_xc, tab_kin, trSs, trS, trE, trT, trX, pl, trA, trO, trC, trI, uBin_s, uUn_s, uVar_s, uC_s, getS, setS, uOp, uAdd, uSub, uMul, uDiv, uMod, uPow, uNeg, uCmp, uEqF, uLt, uLe, uGt, uGe, uIsF, isNonU, uTru, Blt.fn, uAbs, uMax2, uMin2, uInt, startU, gam_fn, gam_gl, tab_xcs, tab_sub, UD_nx, UD_rt, UD_bk, UD_ct, UD_ex, spAt, glAt, gls, List.map_cons, List.map_nil, List.cons_append, List.nil_append, List.length_cons, List.length_nil, List.replicate, Nat.reduceAdd, Nat.reduceSub, Nat.zero_add, reduceIte, Bool.false_eq_true, Bool.true_eq_false, Bool.false_bne, Bool.true_bne, Bool.not_true, Bool.not_false, Bool.not_not, List.reverse_cons, List.reverse_nil, Option.map_some, Option.map_none, up_same, uSet, atI_zero, atI_one, ixN_20, ixN_zero, List.set_cons_zero, uPow]
  cases e : kS u with
  | false =>
    simp only [inH_xc, inH_fn, inH_gl, trJ, uFmt, uXf, uXi, gam_hf, gam_xc, tab_kin, trSs, trS, trE, trT, trX, pl, trA, trO, trC, trI, uBin_s, uUn_s, uVar_s, uC_s, getS, setS, uOp, uAdd, uSub, uMul, uDiv, uMod, uPow, uNeg, uCmp, uEqF, uLt, uLe, uGt, uGe, uIsF, isNonU, uTru, Blt.fn, uAbs, uMax2, uMin2, uInt, startU, gam_fn, gam_gl, tab_xcs, tab_sub, UD_nx, UD_rt, UD_bk, UD_ct, UD_ex, spAt, glAt, gls, List.map_cons, List.map_nil, List.cons_append, List.nil_append, List.length_cons, List.length_nil, List.replicate, Nat.reduceAdd, Nat.reduceSub, Nat.zero_add, reduceIte, Bool.false_eq_true, Bool.true_eq_false, Bool.false_bne, Bool.true_bne, Bool.not_true, Bool.not_false, Bool.not_not, List.reverse_cons, List.reverse_nil, Option.map_some, Option.map_none, up_same, uSet, atI_zero, atI_one, ixN_20, ixN_zero, List.set_cons_zero, uPow]
    exact fin.of (q1 e)
  | true =>
    obtain ⟨z, rfl⟩ : ∃ z, u = .str z := by
      cases u with
      | str z => exact ⟨z, rfl⟩
      | _ => cases e
    obtain ⟨l, rfl, hl, q⟩ := q2 z rfl
    simp only [inH_xc, inH_fn, inH_gl, trJ, uFmt, uXf, uXi, gam_hf, gam_xc, tab_kin, trSs, trS, trE, trT, trX, pl, trA, trO, trC, trI, uBin_s, uUn_s, uVar_s, uC_s, getS, setS, uOp, uAdd, uSub, uMul, uDiv, uMod, uPow, uNeg, uCmp, uEqF, uLt, uLe, uGt, uGe, uIsF, isNonU, uTru, Blt.fn, uAbs, uMax2, uMin2, uInt, startU, gam_fn, gam_gl, tab_xcs, tab_sub, UD_nx, UD_rt, UD_bk, UD_ct, UD_ex, spAt, glAt, gls, List.map_cons, List.map_nil, List.cons_append, List.nil_append, List.length_cons, List.length_nil, List.replicate, Nat.reduceAdd, Nat.reduceSub, Nat.zero_add, reduceIte, Bool.false_eq_true, Bool.true_eq_false, Bool.false_bne, Bool.true_bne, Bool.not_true, Bool.not_false, Bool.not_not, List.reverse_cons, List.reverse_nil, Option.map_some, Option.map_none, up_same, uSet, atI_zero, atI_one, ixN_20, ixN_zero, List.set_cons_zero, uPow, t1__sound_text_stated, slotsG, slotsGs, wipeU, trG]
    intro p hp
    refine lcU_map (ds := []) (G0 := G) (fun u => match u with
      | .str w => .bl (okc (w.cps.getD 0 0))
      | u => u) (fun _ => trivial) _ [] (by simp; omega) (fun y hy acc K1 K0 k => ?_) ?_
    · obtain ⟨c, hc, rfl⟩ := List.mem_map.mp hy
      have k : K1 (.bl (okc c)) (UL.up G p (.lst acc)) := k
      simp only [inH_xc, inH_fn, inH_gl, trJ, uFmt, uXf, uXi, gam_hf, gam_xc, tab_kin, trSs, trS, trE, trT, trX, pl, trA, trO, trC, trI, uBin_s, uUn_s, uVar_s, uC_s, getS, setS, uOp, uAdd, uSub, uMul, uDiv, uMod, uPow, uNeg, uCmp, uEqF, uLt, uLe, uGt, uGe, uIsF, isNonU, uTru, Blt.fn, uAbs, uMax2, uMin2, uInt, startU, gam_fn, gam_gl, tab_xcs, tab_sub, UD_nx, UD_rt, UD_bk, UD_ct, UD_ex, spAt, glAt, gls, List.map_cons, List.map_nil, List.cons_append, List.nil_append, List.length_cons, List.length_nil, List.replicate, Nat.reduceAdd, Nat.reduceSub, Nat.zero_add, reduceIte, Bool.false_eq_true, Bool.true_eq_false, Bool.false_bne, Bool.true_bne, Bool.not_true, Bool.not_false, Bool.not_not, List.reverse_cons, List.reverse_nil, Option.map_some, Option.map_none, up_same, uSet, atI_zero, atI_one, ixN_20, ixN_zero, List.set_cons_zero, uPow, show (⟨#[c]⟩ : Str) = SX.S [c] from rfl, S_lit, show TL.tl (Str.ofString "\n") = [10] from rfl, show Str.ofString " " = SX.S [32] from rfl, show Str.ofString "~" = SX.S [126] from rfl, one_lt]
      by_cases h1 : [c] = [10]
      · have h1' : c = 10 := by simpa using h1
        simp only [inH_xc, inH_fn, inH_gl, trJ, uFmt, uXf, uXi, gam_hf, gam_xc, tab_kin, trSs, trS, trE, trT, trX, pl, trA, trO, trC, trI, uBin_s, uUn_s, uVar_s, uC_s, getS, setS, uOp, uAdd, uSub, uMul, uDiv, uMod, uPow, uNeg, uCmp, uEqF, uLt, uLe, uGt, uGe, uIsF, isNonU, uTru, Blt.fn, uAbs, uMax2, uMin2, uInt, startU, gam_fn, gam_gl, tab_xcs, tab_sub, UD_nx, UD_rt, UD_bk, UD_ct, UD_ex, spAt, glAt, gls, List.map_cons, List.map_nil, List.cons_append, List.nil_append, List.length_cons, List.length_nil, List.replicate, Nat.reduceAdd, Nat.reduceSub, Nat.zero_add, reduceIte, Bool.false_eq_true, Bool.true_eq_false, Bool.false_bne, Bool.true_bne, Bool.not_true, Bool.not_false, Bool.not_not, List.reverse_cons, List.reverse_nil, Option.map_some, Option.map_none, up_same, uSet, atI_zero, atI_one, ixN_20, ixN_zero, List.set_cons_zero, uPow, h1, decide_true]
        rw [show okc c = true from by unfold okc; rw [decide_eq_true h1']; rfl] at k
        exact k
      · have h1' : c ≠ 10 := fun z => h1 (by rw [z])
        simp only [inH_xc, inH_fn, inH_gl, trJ, uFmt, uXf, uXi, gam_hf, gam_xc, tab_kin, trSs, trS, trE, trT, trX, pl, trA, trO, trC, trI, uBin_s, uUn_s, uVar_s, uC_s, getS, setS, uOp, uAdd, uSub, uMul, uDiv, uMod, uPow, uNeg, uCmp, uEqF, uLt, uLe, uGt, uGe, uIsF, isNonU, uTru, Blt.fn, uAbs, uMax2, uMin2, uInt, startU, gam_fn, gam_gl, tab_xcs, tab_sub, UD_nx, UD_rt, UD_bk, UD_ct, UD_ex, spAt, glAt, gls, List.map_cons, List.map_nil, List.cons_append, List.nil_append, List.length_cons, List.length_nil, List.replicate, Nat.reduceAdd, Nat.reduceSub, Nat.zero_add, reduceIte, Bool.false_eq_true, Bool.true_eq_false, Bool.false_bne, Bool.true_bne, Bool.not_true, Bool.not_false, Bool.not_not, List.reverse_cons, List.reverse_nil, Option.map_some, Option.map_none, up_same, uSet, atI_zero, atI_one, ixN_20, ixN_zero, List.set_cons_zero, uPow, h1, decide_false]
        by_cases h2 : c < 32
        · simp only [inH_xc, inH_fn, inH_gl, trJ, uFmt, uXf, uXi, gam_hf, gam_xc, tab_kin, trSs, trS, trE, trT, trX, pl, trA, trO, trC, trI, uBin_s, uUn_s, uVar_s, uC_s, getS, setS, uOp, uAdd, uSub, uMul, uDiv, uMod, uPow, uNeg, uCmp, uEqF, uLt, uLe, uGt, uGe, uIsF, isNonU, uTru, Blt.fn, uAbs, uMax2, uMin2, uInt, startU, gam_fn, gam_gl, tab_xcs, tab_sub, UD_nx, UD_rt, UD_bk, UD_ct, UD_ex, spAt, glAt, gls, List.map_cons, List.map_nil, List.cons_append, List.nil_append, List.length_cons, List.length_nil, List.replicate, Nat.reduceAdd, Nat.reduceSub, Nat.zero_add, reduceIte, Bool.false_eq_true, Bool.true_eq_false, Bool.false_bne, Bool.true_bne, Bool.not_true, Bool.not_false, Bool.not_not, List.reverse_cons, List.reverse_nil, Option.map_some, Option.map_none, up_same, uSet, atI_zero, atI_one, ixN_20, ixN_zero, List.set_cons_zero, uPow, h2, decide_true]
          rw [okc_false (.inl ⟨h1', .inl h2⟩)] at k
          exact k
        · simp only [inH_xc, inH_fn, inH_gl, trJ, uFmt, uXf, uXi, gam_hf, gam_xc, tab_kin, trSs, trS, trE, trT, trX, pl, trA, trO, trC, trI, uBin_s, uUn_s, uVar_s, uC_s, getS, setS, uOp, uAdd, uSub, uMul, uDiv, uMod, uPow, uNeg, uCmp, uEqF, uLt, uLe, uGt, uGe, uIsF, isNonU, uTru, Blt.fn, uAbs, uMax2, uMin2, uInt, startU, gam_fn, gam_gl, tab_xcs, tab_sub, UD_nx, UD_rt, UD_bk, UD_ct, UD_ex, spAt, glAt, gls, List.map_cons, List.map_nil, List.cons_append, List.nil_append, List.length_cons, List.length_nil, List.replicate, Nat.reduceAdd, Nat.reduceSub, Nat.zero_add, reduceIte, Bool.false_eq_true, Bool.true_eq_false, Bool.false_bne, Bool.true_bne, Bool.not_true, Bool.not_false, Bool.not_not, List.reverse_cons, List.reverse_nil, Option.map_some, Option.map_none, up_same, uSet, atI_zero, atI_one, ixN_20, ixN_zero, List.set_cons_zero, uPow, h2, decide_false]
          by_cases h3 : 126 < c
          · simp only [inH_xc, inH_fn, inH_gl, trJ, uFmt, uXf, uXi, gam_hf, gam_xc, tab_kin, trSs, trS, trE, trT, trX, pl, trA, trO, trC, trI, uBin_s, uUn_s, uVar_s, uC_s, getS, setS, uOp, uAdd, uSub, uMul, uDiv, uMod, uPow, uNeg, uCmp, uEqF, uLt, uLe, uGt, uGe, uIsF, isNonU, uTru, Blt.fn, uAbs, uMax2, uMin2, uInt, startU, gam_fn, gam_gl, tab_xcs, tab_sub, UD_nx, UD_rt, UD_bk, UD_ct, UD_ex, spAt, glAt, gls, List.map_cons, List.map_nil, List.cons_append, List.nil_append, List.length_cons, List.length_nil, List.replicate, Nat.reduceAdd, Nat.reduceSub, Nat.zero_add, reduceIte, Bool.false_eq_true, Bool.true_eq_false, Bool.false_bne, Bool.true_bne, Bool.not_true, Bool.not_false, Bool.not_not, List.reverse_cons, List.reverse_nil, Option.map_some, Option.map_none, up_same, uSet, atI_zero, atI_one, ixN_20, ixN_zero, List.set_cons_zero, uPow, h3, decide_true]
            rw [okc_false (.inl ⟨h1', .inr h3⟩)] at k
            exact k
          · simp only [inH_xc, inH_fn, inH_gl, trJ, uFmt, uXf, uXi, gam_hf, gam_xc, tab_kin, trSs, trS, trE, trT, trX, pl, trA, trO, trC, trI, uBin_s, uUn_s, uVar_s, uC_s, getS, setS, uOp, uAdd, uSub, uMul, uDiv, uMod, uPow, uNeg, uCmp, uEqF, uLt, uLe, uGt, uGe, uIsF, isNonU, uTru, Blt.fn, uAbs, uMax2, uMin2, uInt, startU, gam_fn, gam_gl, tab_xcs, tab_sub, UD_nx, UD_rt, UD_bk, UD_ct, UD_ex, spAt, glAt, gls, List.map_cons, List.map_nil, List.cons_append, List.nil_append, List.length_cons, List.length_nil, List.replicate, Nat.reduceAdd, Nat.reduceSub, Nat.zero_add, reduceIte, Bool.false_eq_true, Bool.true_eq_false, Bool.false_bne, Bool.true_bne, Bool.not_true, Bool.not_false, Bool.not_not, List.reverse_cons, List.reverse_nil, Option.map_some, Option.map_none, up_same, uSet, atI_zero, atI_one, ixN_20, ixN_zero, List.set_cons_zero, uPow, h3, decide_false, uOrd]
            refine ⟨rfl, ?_⟩
            by_cases h4 : c = 37
            · rw [okc_false (.inr h4)] at k
              simp only [inH_xc, inH_fn, inH_gl, trJ, uFmt, uXf, uXi, gam_hf, gam_xc, tab_kin, trSs, trS, trE, trT, trX, pl, trA, trO, trC, trI, uBin_s, uUn_s, uVar_s, uC_s, getS, setS, uOp, uAdd, uSub, uMul, uDiv, uMod, uPow, uNeg, uCmp, uEqF, uLt, uLe, uGt, uGe, uIsF, isNonU, uTru, Blt.fn, uAbs, uMax2, uMin2, uInt, startU, gam_fn, gam_gl, tab_xcs, tab_sub, UD_nx, UD_rt, UD_bk, UD_ct, UD_ex, spAt, glAt, gls, List.map_cons, List.map_nil, List.cons_append, List.nil_append, List.length_cons, List.length_nil, List.replicate, Nat.reduceAdd, Nat.reduceSub, Nat.zero_add, reduceIte, Bool.false_eq_true, Bool.true_eq_false, Bool.false_bne, Bool.true_bne, Bool.not_true, Bool.not_false, Bool.not_not, List.reverse_cons, List.reverse_nil, Option.map_some, Option.map_none, up_same, uSet, atI_zero, atI_one, ixN_20, ixN_zero, List.set_cons_zero, uPow, show decide (((SX.S [c]).cps.getD 0 0 : Int) = 37) = true from decide_eq_true (by show (c : Int) = 37; omega)]
              exact k
            · rw [okc_true (by omega) (by omega) h4] at k
              simp only [inH_xc, inH_fn, inH_gl, trJ, uFmt, uXf, uXi, gam_hf, gam_xc, tab_kin, trSs, trS, trE, trT, trX, pl, trA, trO, trC, trI, uBin_s, uUn_s, uVar_s, uC_s, getS, setS, uOp, uAdd, uSub, uMul, uDiv, uMod, uPow, uNeg, uCmp, uEqF, uLt, uLe, uGt, uGe, uIsF, isNonU, uTru, Blt.fn, uAbs, uMax2, uMin2, uInt, startU, gam_fn, gam_gl, tab_xcs, tab_sub, UD_nx, UD_rt, UD_bk, UD_ct, UD_ex, spAt, glAt, gls, List.map_cons, List.map_nil, List.cons_append, List.nil_append, List.length_cons, List.length_nil, List.replicate, Nat.reduceAdd, Nat.reduceSub, Nat.zero_add, reduceIte, Bool.false_eq_true, Bool.true_eq_false, Bool.false_bne, Bool.true_bne, Bool.not_true, Bool.not_false, Bool.not_not, List.reverse_cons, List.reverse_nil, Option.map_some, Option.map_none, up_same, uSet, atI_zero, atI_one, ixN_20, ixN_zero, List.set_cons_zero, uPow, show decide (((SX.S [c]).cps.getD 0 0 : Int) = 37) = false from decide_eq_false (by show ¬ (c : Int) = 37; omega)]
              exact k
    · have e : List.map (fun u => match u with
        | U.str w => U.bl (okc (w.cps.getD 0 0))
        | u => u) (List.map (fun c => U.str ⟨#[c]⟩) l) = (l.map okc).map U.bl := by
        rw [List.map_map, List.map_map]
        rfl
      rw [e, List.nil_append]
      have L1 := Le.new (o := .lst ((l.map okc).map U.bl)) hp
      have e2 : UL.up G p (.lst ((l.map okc).map U.bl)) p = some (.lst ((l.map okc).map U.bl)) := up_same
      generalize UL.up G p _ = G1 at L1 e2 ⊢
      unfold uAll uBlL
      simp only [e2, blsOf_map]
      rw [show (l.map okc).all id = l.all okc from by rw [List.all_map]; rfl]
      exact fin.of (q G1 L1)
end K81
set_option Elab.async false
set_option linter.all false
set_option autoImplicit false
set_option maxRecDepth 100000
set_option maxHeartbeats 4000000
set_option pp.maxSteps 1500
set_option pp.deepTerms false
namespace K81
open PySem PySem.Spec L2 UL
/-! ### read_sound -/
def sp_read_sound : USp := fun us G Q E => ∃ u, us = [u] ∧ tyS G u ∧ (kS u = false → E (xnu "text") G) ∧ (∀ z, u = .str z → ∃ l, z = SX.S l ∧ l.length ≤ 1000000 ∧ l.all okc = true ∧ ∀ G', Le G G' → (match readP l with
  | some ws => Q (.tup (ws.map U.int)) G'
  | none => E xbt G'))
def cl_read_sound : List (Str × USp) := [("_sound_text_stated", sp__sound_text_stated), ("_sound_figures", sp__sound_figures), ("_sound_stretch", sp__sound_stretch)]
theorem rep_ints (m : Nat) (x : Int) : (List.replicate ((m : Nat) : Int).toNat [U.int x]).flatten = (List.replicate m x).map U.int := by
  rw [rep_flat, Int.toNat_natCast, List.map_replicate]
theorem Le.set {G0 G : UH} {W : Addr} {o : UO} (l : Le G0 G) (h : G0 W = none) : Le G0 (UL.up G W o) := fun a o' e => by
  rw [up_ne (fun z => by subst z; rw [h] at e; cases e)]
  exact l a o' e
theorem tail_read {G0 : UH} {n m : Nat} {x : Int} {acc : List Int} {W : Addr} {t0 t1 b o5 : Option U} {G : UH} (hn : n ≤ 20000) (ha : acc.length ≤ 20000) (hW : G0 W = none) (l0 : Le G0 G) (eW : G W = some (.lst (acc.map U.int))) (D : UE)
    (hx : n < acc.length + m → ∀ s G', Le G0 G' → D.ex xbt s G') (hq : acc.length + m ≤ n → ∀ o6 G', Le G0 G' → G' W = some (.lst ((acc ++ List.replicate m x).map U.int)) → D.nx [t0, t1, some (.int n), some (.ref W), some (.int x), o5, o6] G') :
    trT (GM cl_read_sound) D.ex (.cmp .Gt (.bin .Add (.blt .len (.cons (.var 3) .nil)) (.ix (.var 6) (.int 1))) (.var 2)) [t0, t1, some (.int n), some (.ref W), b, o5, some (.tup [.int x, .int m])] G (fun k G2 => if k = true then trSs (TB cl_read_sound) (GM cl_read_sound) (.cons (.raise 1 (.cons (.int 0) .nil)) .nil) D [t0, t1, some (.int n), some (.ref W), b, o5, some (.tup [.int x, .int m])] G2
      else trSs (TB cl_read_sound) (GM cl_read_sound) t2_read_sound D [t0, t1, some (.int n), some (.ref W), b, o5, some (.tup [.int x, .int m])] G2) := by
  have lg := line_ge
  simp only [inH_xc, inH_fn, inH_gl, trJ, uFmt, uXf, uXi, gam_hf, gam_xc, tab_kin, trSs, trS, trE, trT, trX, pl, trA, trO, trC, trI, uBin_s, uUn_s, uVar_s, uC_s, getS, setS, uOp, uAdd, uSub, uMul, uDiv, uMod, uPow, uNeg, uCmp, uEqF, uLt, uLe, uGt, uGe, uIsF, isNonU, uTru, Blt.fn, uAbs, uMax2, uMin2, uInt, startU, gam_fn, gam_gl, tab_xcs, tab_sub, UD_nx, UD_rt, UD_bk, UD_ct, UD_ex, spAt, glAt, gls, List.map_cons, List.map_nil, List.cons_append, List.nil_append, List.length_cons, List.length_nil, List.replicate, Nat.reduceAdd, Nat.reduceSub, Nat.zero_add, reduceIte, Bool.false_eq_true, Bool.true_eq_false, Bool.false_bne, Bool.true_bne, Bool.not_true, Bool.not_false, Bool.not_not, List.reverse_cons, List.reverse_nil, Option.map_some, Option.map_none, up_same, uSet, atI_zero, atI_one, ixN_20, ixN_zero, List.set_cons_zero, uPow]
  refine len_sq (.inr ⟨_, rfl, eW⟩) ?_
  simp only [inH_xc, inH_fn, inH_gl, trJ, uFmt, uXf, uXi, gam_hf, gam_xc, tab_kin, trSs, trS, trE, trT, trX, pl, trA, trO, trC, trI, uBin_s, uUn_s, uVar_s, uC_s, getS, setS, uOp, uAdd, uSub, uMul, uDiv, uMod, uPow, uNeg, uCmp, uEqF, uLt, uLe, uGt, uGe, uIsF, isNonU, uTru, Blt.fn, uAbs, uMax2, uMin2, uInt, startU, gam_fn, gam_gl, tab_xcs, tab_sub, UD_nx, UD_rt, UD_bk, UD_ct, UD_ex, spAt, glAt, gls, List.map_cons, List.map_nil, List.cons_append, List.nil_append, List.length_cons, List.length_nil, List.replicate, Nat.reduceAdd, Nat.reduceSub, Nat.zero_add, reduceIte, Bool.false_eq_true, Bool.true_eq_false, Bool.false_bne, Bool.true_bne, Bool.not_true, Bool.not_false, Bool.not_not, List.reverse_cons, List.reverse_nil, Option.map_some, Option.map_none, up_same, uSet, atI_zero, atI_one, ixN_20, ixN_zero, List.set_cons_zero, uPow, List.length_map]
  refine ix_sq (.inl rfl) atI_one ?_
  by_cases h : n < acc.length + m
  · simp only [inH_xc, inH_fn, inH_gl, trJ, uFmt, uXf, uXi, gam_hf, gam_xc, tab_kin, trSs, trS, trE, trT, trX, pl, trA, trO, trC, trI, uBin_s, uUn_s, uVar_s, uC_s, getS, setS, uOp, uAdd, uSub, uMul, uDiv, uMod, uPow, uNeg, uCmp, uEqF, uLt, uLe, uGt, uGe, uIsF, isNonU, uTru, Blt.fn, uAbs, uMax2, uMin2, uInt, startU, gam_fn, gam_gl, tab_xcs, tab_sub, UD_nx, UD_rt, UD_bk, UD_ct, UD_ex, spAt, glAt, gls, List.map_cons, List.map_nil, List.cons_append, List.nil_append, List.length_cons, List.length_nil, List.replicate, Nat.reduceAdd, Nat.reduceSub, Nat.zero_add, reduceIte, Bool.false_eq_true, Bool.true_eq_false, Bool.false_bne, Bool.true_bne, Bool.not_true, Bool.not_false, Bool.not_not, List.reverse_cons, List.reverse_nil, Option.map_some, Option.map_none, up_same, uSet, atI_zero, atI_one, ixN_20, ixN_zero, List.set_cons_zero, uPow, show decide ((n : Int) < (acc.length : Int) + (m : Int)) = true from decide_eq_true (by omega)]
    exact ⟨rfl, hx h _ G l0⟩
  · simp only [inH_xc, inH_fn, inH_gl, trJ, uFmt, uXf, uXi, gam_hf, gam_xc, tab_kin, trSs, trS, trE, trT, trX, pl, trA, trO, trC, trI, uBin_s, uUn_s, uVar_s, uC_s, getS, setS, uOp, uAdd, uSub, uMul, uDiv, uMod, uPow, uNeg, uCmp, uEqF, uLt, uLe, uGt, uGe, uIsF, isNonU, uTru, Blt.fn, uAbs, uMax2, uMin2, uInt, startU, gam_fn, gam_gl, tab_xcs, tab_sub, UD_nx, UD_rt, UD_bk, UD_ct, UD_ex, spAt, glAt, gls, List.map_cons, List.map_nil, List.cons_append, List.nil_append, List.length_cons, List.length_nil, List.replicate, Nat.reduceAdd, Nat.reduceSub, Nat.zero_add, reduceIte, Bool.false_eq_true, Bool.true_eq_false, Bool.false_bne, Bool.true_bne, Bool.not_true, Bool.not_false, Bool.not_not, List.reverse_cons, List.reverse_nil, Option.map_some, Option.map_none, up_same, uSet, atI_zero, atI_one, ixN_20, ixN_zero, List.set_cons_zero, uPow, show decide ((n : Int) < (acc.length : Int) + (m : Int)) = false from decide_eq_false (by omega), t2_read_sound, trG]
    refine ix_sq (.inl rfl) atI_zero ?_
    simp only [inH_xc, inH_fn, inH_gl, trJ, uFmt, uXf, uXi, gam_hf, gam_xc, tab_kin, trSs, trS, trE, trT, trX, pl, trA, trO, trC, trI, uBin_s, uUn_s, uVar_s, uC_s, getS, setS, uOp, uAdd, uSub, uMul, uDiv, uMod, uPow, uNeg, uCmp, uEqF, uLt, uLe, uGt, uGe, uIsF, isNonU, uTru, Blt.fn, uAbs, uMax2, uMin2, uInt, startU, gam_fn, gam_gl, tab_xcs, tab_sub, UD_nx, UD_rt, UD_bk, UD_ct, UD_ex, spAt, glAt, gls, List.map_cons, List.map_nil, List.cons_append, List.nil_append, List.length_cons, List.length_nil, List.replicate, Nat.reduceAdd, Nat.reduceSub, Nat.zero_add, reduceIte, Bool.false_eq_true, Bool.true_eq_false, Bool.false_bne, Bool.true_bne, Bool.not_true, Bool.not_false, Bool.not_not, List.reverse_cons, List.reverse_nil, Option.map_some, Option.map_none, up_same, uSet, atI_zero, atI_one, ixN_20, ixN_zero, List.set_cons_zero, uPow, t1_read_sound, Mth.T, Mth.fn, mTy, uL, eW]
    refine ⟨trivial, by omega, fun p1 hp1 => ?_⟩
    have L1 := Le.new (o := .lst [.int x]) hp1
    have e1 : UL.up G p1 (.lst [.int x]) p1 = some (.lst [.int x]) := up_same
    have eW1 := L1 _ _ eW
    generalize UL.up G p1 (.lst [.int x]) = G1 at L1 e1 eW1 ⊢
    refine ix_sq (.inl rfl) atI_one ?_
    simp only [inH_xc, inH_fn, inH_gl, trJ, uFmt, uXf, uXi, gam_hf, gam_xc, tab_kin, trSs, trS, trE, trT, trX, pl, trA, trO, trC, trI, uBin_s, uUn_s, uVar_s, uC_s, getS, setS, uOp, uAdd, uSub, uMul, uDiv, uMod, uPow, uNeg, uCmp, uEqF, uLt, uLe, uGt, uGe, uIsF, isNonU, uTru, Blt.fn, uAbs, uMax2, uMin2, uInt, startU, gam_fn, gam_gl, tab_xcs, tab_sub, UD_nx, UD_rt, UD_bk, UD_ct, UD_ex, spAt, glAt, gls, List.map_cons, List.map_nil, List.cons_append, List.nil_append, List.length_cons, List.length_nil, List.replicate, Nat.reduceAdd, Nat.reduceSub, Nat.zero_add, reduceIte, Bool.false_eq_true, Bool.true_eq_false, Bool.false_bne, Bool.true_bne, Bool.not_true, Bool.not_false, Bool.not_not, List.reverse_cons, List.reverse_nil, Option.map_some, Option.map_none, up_same, uSet, atI_zero, atI_one, ixN_20, ixN_zero, List.set_cons_zero, uPow, e1]
    refine ⟨by omega, by omega, by omega, fun p2 hp2 => ?_⟩
    rw [rep_ints]
    have L2 := Le.new (o := .lst ((List.replicate m x).map U.int)) hp2
    have e2 : UL.up G1 p2 (.lst ((List.replicate m x).map U.int)) p2 = some (.lst ((List.replicate m x).map U.int)) := up_same
    have eW2 := L2 _ _ eW1
    have np : p2 ≠ W := fun z => by subst z; rw [hp2] at eW1; cases eW1
    generalize UL.up G1 p2 _ = G2 at L2 e2 eW2 ⊢
    simp only [inH_xc, inH_fn, inH_gl, trJ, uFmt, uXf, uXi, gam_hf, gam_xc, tab_kin, trSs, trS, trE, trT, trX, pl, trA, trO, trC, trI, uBin_s, uUn_s, uVar_s, uC_s, getS, setS, uOp, uAdd, uSub, uMul, uDiv, uMod, uPow, uNeg, uCmp, uEqF, uLt, uLe, uGt, uGe, uIsF, isNonU, uTru, Blt.fn, uAbs, uMax2, uMin2, uInt, startU, gam_fn, gam_gl, tab_xcs, tab_sub, UD_nx, UD_rt, UD_bk, UD_ct, UD_ex, spAt, glAt, gls, List.map_cons, List.map_nil, List.cons_append, List.nil_append, List.length_cons, List.length_nil, List.replicate, Nat.reduceAdd, Nat.reduceSub, Nat.zero_add, reduceIte, Bool.false_eq_true, Bool.true_eq_false, Bool.false_bne, Bool.true_bne, Bool.not_true, Bool.not_false, Bool.not_not, List.reverse_cons, List.reverse_nil, Option.map_some, Option.map_none, up_same, uSet, atI_zero, atI_one, ixN_20, ixN_zero, List.set_cons_zero, uPow, eW2, e2]
    refine ⟨by simp only [List.length_map, List.length_replicate]; omega, hq (by omega) _ _ (Le.set ((l0.trans L1).trans L2) hW) ?_⟩
    rw [up_same, List.map_append]
theorem l_read {G0 : UH} {n : Nat} {W r2 : Addr} {us0 : List U} {t0 t1 : Option U} (hn : n ≤ 20000) (hW : G0 W = none) (hr0 : G0 r2 = some (.lst us0)) (D : UE) : ∀ (ws : List (List Nat)) (acc : List Int) (bef : Option Int) (o5 o6 : Option U) (G : UH), (∀ w ∈ ws, w.length ≤ 1000000) → acc.length ≤ 20000 → Le G0 G → G W = some (.lst (acc.map U.int)) →
    (goP n ws acc bef = none → ∀ s G', Le G0 G' → D.ex xbt s G') →
    (∀ acc' b o5 o6 G', goP n ws acc bef = (if acc'.length = n then some acc' else none) → acc'.length ≤ 20000 → Le G0 G' → G' W = some (.lst (acc'.map U.int)) → D.nx [t0, t1, some (.int n), some (.ref W), b, o5, o6] G') →
    forU [(r2, us0)] (trG (.nm 5)) (trSs (TB cl_read_sound) (GM cl_read_sound) l1_read_sound) D (wU ws) [t0, t1, some (.int n), some (.ref W), some (optI bef), o5, o6] G
  | [], acc, bef, o5, o6, G, hb, ha, l0, eW, hx, hq => ⟨⟨l0 _ _ hr0, trivial⟩, hq acc _ _ _ G rfl ha l0 eW⟩
  | w :: ws, acc, bef, o5, o6, G, hb, ha, l0, eW, hx, hq => by
    have lg := line_ge
    have next := fun acc bef o5 o6 G => l_read (t0 := t0) (t1 := t1) hn hW hr0 D ws acc bef o5 o6 G (fun x hx => hb x (List.mem_cons_of_mem _ hx))
    refine ⟨⟨l0 _ _ hr0, trivial⟩, ?_⟩
    show _
    generalize forU _ _ _ D (wU ws) = T at next ⊢
    simp only [inH_xc, inH_fn, inH_gl, trJ, uFmt, uXf, uXi, gam_hf, gam_xc, tab_kin, trSs, trS, trE, trT, trX, pl, trA, trO, trC, trI, uBin_s, uUn_s, uVar_s, uC_s, getS, setS, uOp, uAdd, uSub, uMul, uDiv, uMod, uPow, uNeg, uCmp, uEqF, uLt, uLe, uGt, uGe, uIsF, isNonU, uTru, Blt.fn, uAbs, uMax2, uMin2, uInt, startU, gam_fn, gam_gl, tab_xcs, tab_sub, UD_nx, UD_rt, UD_bk, UD_ct, UD_ex, spAt, glAt, gls, List.map_cons, List.map_nil, List.cons_append, List.nil_append, List.length_cons, List.length_nil, List.replicate, Nat.reduceAdd, Nat.reduceSub, Nat.zero_add, reduceIte, Bool.false_eq_true, Bool.true_eq_false, Bool.false_bne, Bool.true_bne, Bool.not_true, Bool.not_false, Bool.not_not, List.reverse_cons, List.reverse_nil, Option.map_some, Option.map_none, up_same, uSet, atI_zero, atI_one, ixN_20, ixN_zero, List.set_cons_zero, uPow, trG, l1_read_sound, cl_read_sound]
    refine ⟨w, rfl, hb w List.mem_cons_self, fun G1 l1 => ?_⟩
    have l01 := l0.trans l1
    have eW1 := l1 _ _ eW
    cases es : stretchP w with
    | none =>
      simp only [inH_xc, inH_fn, inH_gl, trJ, uFmt, uXf, uXi, gam_hf, gam_xc, tab_kin, trSs, trS, trE, trT, trX, pl, trA, trO, trC, trI, uBin_s, uUn_s, uVar_s, uC_s, getS, setS, uOp, uAdd, uSub, uMul, uDiv, uMod, uPow, uNeg, uCmp, uEqF, uLt, uLe, uGt, uGe, uIsF, isNonU, uTru, Blt.fn, uAbs, uMax2, uMin2, uInt, startU, gam_fn, gam_gl, tab_xcs, tab_sub, UD_nx, UD_rt, UD_bk, UD_ct, UD_ex, spAt, glAt, gls, List.map_cons, List.map_nil, List.cons_append, List.nil_append, List.length_cons, List.length_nil, List.replicate, Nat.reduceAdd, Nat.reduceSub, Nat.zero_add, reduceIte, Bool.false_eq_true, Bool.true_eq_false, Bool.false_bne, Bool.true_bne, Bool.not_true, Bool.not_false, Bool.not_not, List.reverse_cons, List.reverse_nil, Option.map_some, Option.map_none, up_same, uSet, atI_zero, atI_one, ixN_20, ixN_zero, List.set_cons_zero, uPow, optP, t3_read_sound, uIsF, isNonU]
      exact ⟨rfl, hx (by simp only [goP, es]) _ G1 l01⟩
    | some p =>
      obtain ⟨x, m⟩ := p
      have hgo : goP n (w :: ws) acc bef = if some x = bef ∨ n < acc.length + m then none else goP n ws (acc ++ List.replicate m x) (some x) := by simp only [goP, es]
      rw [hgo] at hx hq
      simp only [inH_xc, inH_fn, inH_gl, trJ, uFmt, uXf, uXi, gam_hf, gam_xc, tab_kin, trSs, trS, trE, trT, trX, pl, trA, trO, trC, trI, uBin_s, uUn_s, uVar_s, uC_s, getS, setS, uOp, uAdd, uSub, uMul, uDiv, uMod, uPow, uNeg, uCmp, uEqF, uLt, uLe, uGt, uGe, uIsF, isNonU, uTru, Blt.fn, uAbs, uMax2, uMin2, uInt, startU, gam_fn, gam_gl, tab_xcs, tab_sub, UD_nx, UD_rt, UD_bk, UD_ct, UD_ex, spAt, glAt, gls, List.map_cons, List.map_nil, List.cons_append, List.nil_append, List.length_cons, List.length_nil, List.replicate, Nat.reduceAdd, Nat.reduceSub, Nat.zero_add, reduceIte, Bool.false_eq_true, Bool.true_eq_false, Bool.false_bne, Bool.true_bne, Bool.not_true, Bool.not_false, Bool.not_not, List.reverse_cons, List.reverse_nil, Option.map_some, Option.map_none, up_same, uSet, atI_zero, atI_one, ixN_20, ixN_zero, List.set_cons_zero, uPow, optP, t3_read_sound, uIsF, isNonU]
      refine ix_sq (.inl rfl) atI_zero ?_
      have cont : some x ≠ bef → acc.length + m ≤ n → ∀ o6 G', Le G0 G' → G' W = some (.lst ((acc ++ List.replicate m x).map U.int)) → ∃ G3, Le G3 G' ∧ T [t0, t1, some (.int n), some (.ref W), some (.int x), some (.str (SX.S w)), o6] G3 := fun h1 h2 o6 G' l' e' => by
        rw [if_neg (show ¬ (some x = bef ∨ n < acc.length + m) from fun z => z.elim h1 (by omega))] at hx hq
        exact ⟨G', .refl _, next (acc ++ List.replicate m x) (some x) _ _ G' (by simp; omega) l' e' hx hq⟩
      have over : n < acc.length + m → ∀ s G', Le G0 G' → D.ex xbt s G' := fun h => hx (if_pos (.inr h))
      cases bef with
      | none =>
        simp only [inH_xc, inH_fn, inH_gl, trJ, uFmt, uXf, uXi, gam_hf, gam_xc, tab_kin, trSs, trS, trE, trT, trX, pl, trA, trO, trC, trI, uBin_s, uUn_s, uVar_s, uC_s, getS, setS, uOp, uAdd, uSub, uMul, uDiv, uMod, uPow, uNeg, uCmp, uEqF, uLt, uLe, uGt, uGe, uIsF, isNonU, uTru, Blt.fn, uAbs, uMax2, uMin2, uInt, startU, gam_fn, gam_gl, tab_xcs, tab_sub, UD_nx, UD_rt, UD_bk, UD_ct, UD_ex, spAt, glAt, gls, List.map_cons, List.map_nil, List.cons_append, List.nil_append, List.length_cons, List.length_nil, List.replicate, Nat.reduceAdd, Nat.reduceSub, Nat.zero_add, reduceIte, Bool.false_eq_true, Bool.true_eq_false, Bool.false_bne, Bool.true_bne, Bool.not_true, Bool.not_false, Bool.not_not, List.reverse_cons, List.reverse_nil, Option.map_some, Option.map_none, up_same, uSet, atI_zero, atI_one, ixN_20, ixN_zero, List.set_cons_zero, uPow, optI, show dOf G1 (.int x) = some (.int x) from rfl, show dOf G1 .non = some .none from rfl]
        refine ⟨rfl, rfl, ?_⟩
        rw [show PyData.eqv (.int x) .none = false from by simp [PyData.eqv]]
        simp only [inH_xc, inH_fn, inH_gl, trJ, uFmt, uXf, uXi, gam_hf, gam_xc, tab_kin, trSs, trS, trE, trT, trX, pl, trA, trO, trC, trI, uBin_s, uUn_s, uVar_s, uC_s, getS, setS, uOp, uAdd, uSub, uMul, uDiv, uMod, uPow, uNeg, uCmp, uEqF, uLt, uLe, uGt, uGe, uIsF, isNonU, uTru, Blt.fn, uAbs, uMax2, uMin2, uInt, startU, gam_fn, gam_gl, tab_xcs, tab_sub, UD_nx, UD_rt, UD_bk, UD_ct, UD_ex, spAt, glAt, gls, List.map_cons, List.map_nil, List.cons_append, List.nil_append, List.length_cons, List.length_nil, List.replicate, Nat.reduceAdd, Nat.reduceSub, Nat.zero_add, reduceIte, Bool.false_eq_true, Bool.true_eq_false, Bool.false_bne, Bool.true_bne, Bool.not_true, Bool.not_false, Bool.not_not, List.reverse_cons, List.reverse_nil, Option.map_some, Option.map_none, up_same, uSet, atI_zero, atI_one, ixN_20, ixN_zero, List.set_cons_zero, uPow]
        exact tail_read hn ha hW l01 eW1 _ over (cont (by simp))
      | some y =>
        simp only [inH_xc, inH_fn, inH_gl, trJ, uFmt, uXf, uXi, gam_hf, gam_xc, tab_kin, trSs, trS, trE, trT, trX, pl, trA, trO, trC, trI, uBin_s, uUn_s, uVar_s, uC_s, getS, setS, uOp, uAdd, uSub, uMul, uDiv, uMod, uPow, uNeg, uCmp, uEqF, uLt, uLe, uGt, uGe, uIsF, isNonU, uTru, Blt.fn, uAbs, uMax2, uMin2, uInt, startU, gam_fn, gam_gl, tab_xcs, tab_sub, UD_nx, UD_rt, UD_bk, UD_ct, UD_ex, spAt, glAt, gls, List.map_cons, List.map_nil, List.cons_append, List.nil_append, List.length_cons, List.length_nil, List.replicate, Nat.reduceAdd, Nat.reduceSub, Nat.zero_add, reduceIte, Bool.false_eq_true, Bool.true_eq_false, Bool.false_bne, Bool.true_bne, Bool.not_true, Bool.not_false, Bool.not_not, List.reverse_cons, List.reverse_nil, Option.map_some, Option.map_none, up_same, uSet, atI_zero, atI_one, ixN_20, ixN_zero, List.set_cons_zero, uPow, optI]
        by_cases h : x = y
        · simp only [inH_xc, inH_fn, inH_gl, trJ, uFmt, uXf, uXi, gam_hf, gam_xc, tab_kin, trSs, trS, trE, trT, trX, pl, trA, trO, trC, trI, uBin_s, uUn_s, uVar_s, uC_s, getS, setS, uOp, uAdd, uSub, uMul, uDiv, uMod, uPow, uNeg, uCmp, uEqF, uLt, uLe, uGt, uGe, uIsF, isNonU, uTru, Blt.fn, uAbs, uMax2, uMin2, uInt, startU, gam_fn, gam_gl, tab_xcs, tab_sub, UD_nx, UD_rt, UD_bk, UD_ct, UD_ex, spAt, glAt, gls, List.map_cons, List.map_nil, List.cons_append, List.nil_append, List.length_cons, List.length_nil, List.replicate, Nat.reduceAdd, Nat.reduceSub, Nat.zero_add, reduceIte, Bool.false_eq_true, Bool.true_eq_false, Bool.false_bne, Bool.true_bne, Bool.not_true, Bool.not_false, Bool.not_not, List.reverse_cons, List.reverse_nil, Option.map_some, Option.map_none, up_same, uSet, atI_zero, atI_one, ixN_20, ixN_zero, List.set_cons_zero, uPow, h, decide_true]
          exact ⟨rfl, hx (if_pos (.inl (by rw [h]))) _ G1 l01⟩
        · simp only [inH_xc, inH_fn, inH_gl, trJ, uFmt, uXf, uXi, gam_hf, gam_xc, tab_kin, trSs, trS, trE, trT, trX, pl, trA, trO, trC, trI, uBin_s, uUn_s, uVar_s, uC_s, getS, setS, uOp, uAdd, uSub, uMul, uDiv, uMod, uPow, uNeg, uCmp, uEqF, uLt, uLe, uGt, uGe, uIsF, isNonU, uTru, Blt.fn, uAbs, uMax2, uMin2, uInt, startU, gam_fn, gam_gl, tab_xcs, tab_sub, UD_nx, UD_rt, UD_bk, UD_ct, UD_ex, spAt, glAt, gls, List.map_cons, List.map_nil, List.cons_append, List.nil_append, List.length_cons, List.length_nil, List.replicate, Nat.reduceAdd, Nat.reduceSub, Nat.zero_add, reduceIte, Bool.false_eq_true, Bool.true_eq_false, Bool.false_bne, Bool.true_bne, Bool.not_true, Bool.not_false, Bool.not_not, List.reverse_cons, List.reverse_nil, Option.map_some, Option.map_none, up_same, uSet, atI_zero, atI_one, ixN_20, ixN_zero, List.set_cons_zero, uPow, h, decide_false]
          exact tail_read hn ha hW l01 eW1 _ over (cont (fun z => h (Option.some.inj z)))
theorem cutU2 (a b : U) (us : List U) : cutU (a :: b :: us) (some 2) none = us := by
  rw [cut_drop (by decide)]
  rfl
theorem w_read_sound (us : List U) (G : UH) (Q : UK) (E : UXn → UH → Prop) (h : sp_read_sound us G Q E) : trSs (TB cl_read_sound) (GM cl_read_sound) b_read_sound (UD Q E) (startU n_read_sound us) G := by
  obtain ⟨u, rfl, ht, q1, q2⟩ := h
  have lg := line_ge
  cases e : kS u with
  | false =>
    simp only [inH_xc, inH_fn, inH_gl, trJ, uFmt, uXf, uXi, gam_hf, gam_xc, tab_kin, trSs, trS, trE, trT, trX, pl, trA, trO, trC, trI, uBin_s, uUn_s, uVar_s, uC_s, getS, setS, uOp, uAdd, uSub, uMul, uDiv, uMod, uPow, uNeg, uCmp, uEqF, uLt, uLe, uGt, uGe, uIsF, isNonU, uTru, Blt.fn, uAbs, uMax2, uMin2, uInt, startU, gam_fn, gam_gl, tab_xcs, tab_sub, UD_nx, UD_rt, UD_bk, UD_ct, UD_ex, spAt, glAt, gls, List.map_cons, List.map_nil, List.cons_append, List.nil_append, List.length_cons, List.length_nil, List.replicate, Nat.reduceAdd, Nat.reduceSub, Nat.zero_add, reduceIte, Bool.false_eq_true, Bool.true_eq_false, Bool.false_bne, Bool.true_bne, Bool.not_true, Bool.not_false, Bool.not_not, List.reverse_cons, List.reverse_nil, Option.map_some, Option.map_none, up_same, uSet, atI_zero, atI_one, ixN_20, ixN_zero, List.set_cons_zero, uPow, b_read_sound, n_read_sound, cl_read_sound]
    refine ⟨u, rfl, ht, fun _ => ?_, fun z hz => by subst hz; cases e⟩
    simp only [inH_xc, inH_fn, inH_gl, trJ, uFmt, uXf, uXi, gam_hf, gam_xc, tab_kin, trSs, trS, trE, trT, trX, pl, trA, trO, trC, trI, uBin_s, uUn_s, uVar_s, uC_s, getS, setS, uOp, uAdd, uSub, uMul, uDiv, uMod, uPow, uNeg, uCmp, uEqF, uLt, uLe, uGt, uGe, uIsF, isNonU, uTru, Blt.fn, uAbs, uMax2, uMin2, uInt, startU, gam_fn, gam_gl, tab_xcs, tab_sub, UD_nx, UD_rt, UD_bk, UD_ct, UD_ex, spAt, glAt, gls, List.map_cons, List.map_nil, List.cons_append, List.nil_append, List.length_cons, List.length_nil, List.replicate, Nat.reduceAdd, Nat.reduceSub, Nat.zero_add, reduceIte, Bool.false_eq_true, Bool.true_eq_false, Bool.false_bne, Bool.true_bne, Bool.not_true, Bool.not_false, Bool.not_not, List.reverse_cons, List.reverse_nil, Option.map_some, Option.map_none, up_same, uSet, atI_zero, atI_one, ixN_20, ixN_zero, List.set_cons_zero, uPow]
    exact ⟨rfl, fin.of (q1 e)⟩
  | true =>
    obtain ⟨z, rfl⟩ : ∃ z, u = .str z := by
      cases u with
      | str z => exact ⟨z, rfl⟩
      | _ => cases e
    obtain ⟨l, rfl, hl, hok, q⟩ := q2 z rfl
    simp only [inH_xc, inH_fn, inH_gl, trJ, uFmt, uXf, uXi, gam_hf, gam_xc, tab_kin, trSs, trS, trE, trT, trX, pl, trA, trO, trC, trI, uBin_s, uUn_s, uVar_s, uC_s, getS, setS, uOp, uAdd, uSub, uMul, uDiv, uMod, uPow, uNeg, uCmp, uEqF, uLt, uLe, uGt, uGe, uIsF, isNonU, uTru, Blt.fn, uAbs, uMax2, uMin2, uInt, startU, gam_fn, gam_gl, tab_xcs, tab_sub, UD_nx, UD_rt, UD_bk, UD_ct, UD_ex, spAt, glAt, gls, List.map_cons, List.map_nil, List.cons_append, List.nil_append, List.length_cons, List.length_nil, List.replicate, Nat.reduceAdd, Nat.reduceSub, Nat.zero_add, reduceIte, Bool.false_eq_true, Bool.true_eq_false, Bool.false_bne, Bool.true_bne, Bool.not_true, Bool.not_false, Bool.not_not, List.reverse_cons, List.reverse_nil, Option.map_some, Option.map_none, up_same, uSet, atI_zero, atI_one, ixN_20, ixN_zero, List.set_cons_zero, uPow, b_read_sound, n_read_sound, cl_read_sound]
    refine ⟨_, rfl, ht, (fun z => by cases z), fun z hz => ⟨l, (by cases hz; rfl), hl, fun G1 l1 => ?_⟩⟩
    rw [hok]
    simp only [inH_xc, inH_fn, inH_gl, trJ, uFmt, uXf, uXi, gam_hf, gam_xc, tab_kin, trSs, trS, trE, trT, trX, pl, trA, trO, trC, trI, uBin_s, uUn_s, uVar_s, uC_s, getS, setS, uOp, uAdd, uSub, uMul, uDiv, uMod, uPow, uNeg, uCmp, uEqF, uLt, uLe, uGt, uGe, uIsF, isNonU, uTru, Blt.fn, uAbs, uMax2, uMin2, uInt, startU, gam_fn, gam_gl, tab_xcs, tab_sub, UD_nx, UD_rt, UD_bk, UD_ct, UD_ex, spAt, glAt, gls, List.map_cons, List.map_nil, List.cons_append, List.nil_append, List.length_cons, List.length_nil, List.replicate, Nat.reduceAdd, Nat.reduceSub, Nat.zero_add, reduceIte, Bool.false_eq_true, Bool.true_eq_false, Bool.false_bne, Bool.true_bne, Bool.not_true, Bool.not_false, Bool.not_not, List.reverse_cons, List.reverse_nil, Option.map_some, Option.map_none, up_same, uSet, atI_zero, atI_one, ixN_20, ixN_zero, List.set_cons_zero, uPow, t10_read_sound, Mth.T, Mth.fn, mTy, trG]
    rw [show Str.ofString " " = SX.S [32] from rfl, split_1 (by decide)]
    refine ⟨trivial, rfl, by rw [SX.S_len]; omega, fun p hp => ?_⟩
    unfold readP at q
    have hb := fun (x : List Nat) (hx : x ∈ TL.spl [32] 0 [] l) => spl_len (by decide) hx
    generalize TL.spl [32] 0 [] l = ps at q hb ⊢
    have L1 := l1.trans (Le.new (o := .lst (wU ps)) hp)
    have e1 : UL.up G1 p (.lst (wU ps)) p = some (.lst (wU ps)) := up_same
    generalize UL.up G1 p _ = G2 at L1 e1 ⊢
    have none_ : (wordsP ps = none) → ∀ o3 o4 o5 o6 G', Le G G' → trSs (TB cl_read_sound) (GM cl_read_sound) t8_read_sound (UD Q E) [some (.str (SX.S l)), some (.ref p), some .non, o3, o4, o5, o6] G' := fun h o3 o4 o5 o6 G' l' => by
      simp only [inH_xc, inH_fn, inH_gl, trJ, uFmt, uXf, uXi, gam_hf, gam_xc, tab_kin, trSs, trS, trE, trT, trX, pl, trA, trO, trC, trI, uBin_s, uUn_s, uVar_s, uC_s, getS, setS, uOp, uAdd, uSub, uMul, uDiv, uMod, uPow, uNeg, uCmp, uEqF, uLt, uLe, uGt, uGe, uIsF, isNonU, uTru, Blt.fn, uAbs, uMax2, uMin2, uInt, startU, gam_fn, gam_gl, tab_xcs, tab_sub, UD_nx, UD_rt, UD_bk, UD_ct, UD_ex, spAt, glAt, gls, List.map_cons, List.map_nil, List.cons_append, List.nil_append, List.length_cons, List.length_nil, List.replicate, Nat.reduceAdd, Nat.reduceSub, Nat.zero_add, reduceIte, Bool.false_eq_true, Bool.true_eq_false, Bool.false_bne, Bool.true_bne, Bool.not_true, Bool.not_false, Bool.not_not, List.reverse_cons, List.reverse_nil, Option.map_some, Option.map_none, up_same, uSet, atI_zero, atI_one, ixN_20, ixN_zero, List.set_cons_zero, uPow, t8_read_sound, uIsF, isNonU]
      rw [h] at q
      exact ⟨rfl, fin.of (q G' l')⟩
    simp only [inH_xc, inH_fn, inH_gl, trJ, uFmt, uXf, uXi, gam_hf, gam_xc, tab_kin, trSs, trS, trE, trT, trX, pl, trA, trO, trC, trI, uBin_s, uUn_s, uVar_s, uC_s, getS, setS, uOp, uAdd, uSub, uMul, uDiv, uMod, uPow, uNeg, uCmp, uEqF, uLt, uLe, uGt, uGe, uIsF, isNonU, uTru, Blt.fn, uAbs, uMax2, uMin2, uInt, startU, gam_fn, gam_gl, tab_xcs, tab_sub, UD_nx, UD_rt, UD_bk, UD_ct, UD_ex, spAt, glAt, gls, List.map_cons, List.map_nil, List.cons_append, List.nil_append, List.length_cons, List.length_nil, List.replicate, Nat.reduceAdd, Nat.reduceSub, Nat.zero_add, reduceIte, Bool.false_eq_true, Bool.true_eq_false, Bool.false_bne, Bool.true_bne, Bool.not_true, Bool.not_false, Bool.not_not, List.reverse_cons, List.reverse_nil, Option.map_some, Option.map_none, up_same, uSet, atI_zero, atI_one, ixN_20, ixN_zero, List.set_cons_zero, uPow, t9_read_sound, cl_read_sound]
    refine len_sq (.inr ⟨_, rfl, e1⟩) ?_
    simp only [inH_xc, inH_fn, inH_gl, trJ, uFmt, uXf, uXi, gam_hf, gam_xc, tab_kin, trSs, trS, trE, trT, trX, pl, trA, trO, trC, trI, uBin_s, uUn_s, uVar_s, uC_s, getS, setS, uOp, uAdd, uSub, uMul, uDiv, uMod, uPow, uNeg, uCmp, uEqF, uLt, uLe, uGt, uGe, uIsF, isNonU, uTru, Blt.fn, uAbs, uMax2, uMin2, uInt, startU, gam_fn, gam_gl, tab_xcs, tab_sub, UD_nx, UD_rt, UD_bk, UD_ct, UD_ex, spAt, glAt, gls, List.map_cons, List.map_nil, List.cons_append, List.nil_append, List.length_cons, List.length_nil, List.replicate, Nat.reduceAdd, Nat.reduceSub, Nat.zero_add, reduceIte, Bool.false_eq_true, Bool.true_eq_false, Bool.false_bne, Bool.true_bne, Bool.not_true, Bool.not_false, Bool.not_not, List.reverse_cons, List.reverse_nil, Option.map_some, Option.map_none, up_same, uSet, atI_zero, atI_one, ixN_20, ixN_zero, List.set_cons_zero, uPow, List.length_map]
    match ps, q, hb, e1, none_ with
    | [], q, hb, e1, none_ =>
      simp only [inH_xc, inH_fn, inH_gl, trJ, uFmt, uXf, uXi, gam_hf, gam_xc, tab_kin, trSs, trS, trE, trT, trX, pl, trA, trO, trC, trI, uBin_s, uUn_s, uVar_s, uC_s, getS, setS, uOp, uAdd, uSub, uMul, uDiv, uMod, uPow, uNeg, uCmp, uEqF, uLt, uLe, uGt, uGe, uIsF, isNonU, uTru, Blt.fn, uAbs, uMax2, uMin2, uInt, startU, gam_fn, gam_gl, tab_xcs, tab_sub, UD_nx, UD_rt, UD_bk, UD_ct, UD_ex, spAt, glAt, gls, List.map_cons, List.map_nil, List.cons_append, List.nil_append, List.length_cons, List.length_nil, List.replicate, Nat.reduceAdd, Nat.reduceSub, Nat.zero_add, reduceIte, Bool.false_eq_true, Bool.true_eq_false, Bool.false_bne, Bool.true_bne, Bool.not_true, Bool.not_false, Bool.not_not, List.reverse_cons, List.reverse_nil, Option.map_some, Option.map_none, up_same, uSet, atI_zero, atI_one, ixN_20, ixN_zero, List.set_cons_zero, uPow, show decide ((1 : Int) < (([] : List (List Nat)).length : Int)) = false from rfl, show decide ((1 : Int) < ((0 : Nat) : Int)) = false from rfl, trG]
      exact none_ rfl _ _ _ _ G2 L1
    | [w0], q, hb, e1, none_ =>
      simp only [inH_xc, inH_fn, inH_gl, trJ, uFmt, uXf, uXi, gam_hf, gam_xc, tab_kin, trSs, trS, trE, trT, trX, pl, trA, trO, trC, trI, uBin_s, uUn_s, uVar_s, uC_s, getS, setS, uOp, uAdd, uSub, uMul, uDiv, uMod, uPow, uNeg, uCmp, uEqF, uLt, uLe, uGt, uGe, uIsF, isNonU, uTru, Blt.fn, uAbs, uMax2, uMin2, uInt, startU, gam_fn, gam_gl, tab_xcs, tab_sub, UD_nx, UD_rt, UD_bk, UD_ct, UD_ex, spAt, glAt, gls, List.map_cons, List.map_nil, List.cons_append, List.nil_append, List.length_cons, List.length_nil, List.replicate, Nat.reduceAdd, Nat.reduceSub, Nat.zero_add, reduceIte, Bool.false_eq_true, Bool.true_eq_false, Bool.false_bne, Bool.true_bne, Bool.not_true, Bool.not_false, Bool.not_not, List.reverse_cons, List.reverse_nil, Option.map_some, Option.map_none, up_same, uSet, atI_zero, atI_one, ixN_20, ixN_zero, List.set_cons_zero, uPow, show decide ((1 : Int) < (([w0] : List (List Nat)).length : Int)) = false from rfl, show decide ((1 : Int) < ((1 : Nat) : Int)) = false from rfl, trG]
      exact none_ rfl _ _ _ _ G2 L1
    | w0 :: w1 :: ws, q, hb, e1, none_ =>
      have e1' : SqU G2 (.ref p) (U.str (SX.S w0) :: U.str (SX.S w1) :: wU ws) := .inr ⟨_, rfl, e1⟩
      simp only [inH_xc, inH_fn, inH_gl, trJ, uFmt, uXf, uXi, gam_hf, gam_xc, tab_kin, trSs, trS, trE, trT, trX, pl, trA, trO, trC, trI, uBin_s, uUn_s, uVar_s, uC_s, getS, setS, uOp, uAdd, uSub, uMul, uDiv, uMod, uPow, uNeg, uCmp, uEqF, uLt, uLe, uGt, uGe, uIsF, isNonU, uTru, Blt.fn, uAbs, uMax2, uMin2, uInt, startU, gam_fn, gam_gl, tab_xcs, tab_sub, UD_nx, UD_rt, UD_bk, UD_ct, UD_ex, spAt, glAt, gls, List.map_cons, List.map_nil, List.cons_append, List.nil_append, List.length_cons, List.length_nil, List.replicate, Nat.reduceAdd, Nat.reduceSub, Nat.zero_add, reduceIte, Bool.false_eq_true, Bool.true_eq_false, Bool.false_bne, Bool.true_bne, Bool.not_true, Bool.not_false, Bool.not_not, List.reverse_cons, List.reverse_nil, Option.map_some, Option.map_none, up_same, uSet, atI_zero, atI_one, ixN_20, ixN_zero, List.set_cons_zero, uPow, show decide ((1 : Int) < ((ws.length + 1 + 1 : Nat) : Int)) = true from decide_eq_true (by omega)]
      refine ix_sq e1' atI_zero ?_
      simp only [inH_xc, inH_fn, inH_gl, trJ, uFmt, uXf, uXi, gam_hf, gam_xc, tab_kin, trSs, trS, trE, trT, trX, pl, trA, trO, trC, trI, uBin_s, uUn_s, uVar_s, uC_s, getS, setS, uOp, uAdd, uSub, uMul, uDiv, uMod, uPow, uNeg, uCmp, uEqF, uLt, uLe, uGt, uGe, uIsF, isNonU, uTru, Blt.fn, uAbs, uMax2, uMin2, uInt, startU, gam_fn, gam_gl, tab_xcs, tab_sub, UD_nx, UD_rt, UD_bk, UD_ct, UD_ex, spAt, glAt, gls, List.map_cons, List.map_nil, List.cons_append, List.nil_append, List.length_cons, List.length_nil, List.replicate, Nat.reduceAdd, Nat.reduceSub, Nat.zero_add, reduceIte, Bool.false_eq_true, Bool.true_eq_false, Bool.false_bne, Bool.true_bne, Bool.not_true, Bool.not_false, Bool.not_not, List.reverse_cons, List.reverse_nil, Option.map_some, Option.map_none, up_same, uSet, atI_zero, atI_one, ixN_20, ixN_zero, List.set_cons_zero, uPow, S_lit, show TL.tl (Str.ofString "sound") = sndL from rfl]
      by_cases h0 : w0 = sndL
      · simp only [inH_xc, inH_fn, inH_gl, trJ, uFmt, uXf, uXi, gam_hf, gam_xc, tab_kin, trSs, trS, trE, trT, trX, pl, trA, trO, trC, trI, uBin_s, uUn_s, uVar_s, uC_s, getS, setS, uOp, uAdd, uSub, uMul, uDiv, uMod, uPow, uNeg, uCmp, uEqF, uLt, uLe, uGt, uGe, uIsF, isNonU, uTru, Blt.fn, uAbs, uMax2, uMin2, uInt, startU, gam_fn, gam_gl, tab_xcs, tab_sub, UD_nx, UD_rt, UD_bk, UD_ct, UD_ex, spAt, glAt, gls, List.map_cons, List.map_nil, List.cons_append, List.nil_append, List.length_cons, List.length_nil, List.replicate, Nat.reduceAdd, Nat.reduceSub, Nat.zero_add, reduceIte, Bool.false_eq_true, Bool.true_eq_false, Bool.false_bne, Bool.true_bne, Bool.not_true, Bool.not_false, Bool.not_not, List.reverse_cons, List.reverse_nil, Option.map_some, Option.map_none, up_same, uSet, atI_zero, atI_one, ixN_20, ixN_zero, List.set_cons_zero, uPow, h0, decide_true]
        refine ix_sq e1' atI_one ?_
        refine ⟨w1, rfl, by have := hb w1 (by simp); omega, fun G3 l3 => ?_⟩
        have L3 := L1.trans l3
        cases ef : figs w1 with
        | none =>
          simp only [inH_xc, inH_fn, inH_gl, trJ, uFmt, uXf, uXi, gam_hf, gam_xc, tab_kin, trSs, trS, trE, trT, trX, pl, trA, trO, trC, trI, uBin_s, uUn_s, uVar_s, uC_s, getS, setS, uOp, uAdd, uSub, uMul, uDiv, uMod, uPow, uNeg, uCmp, uEqF, uLt, uLe, uGt, uGe, uIsF, isNonU, uTru, Blt.fn, uAbs, uMax2, uMin2, uInt, startU, gam_fn, gam_gl, tab_xcs, tab_sub, UD_nx, UD_rt, UD_bk, UD_ct, UD_ex, spAt, glAt, gls, List.map_cons, List.map_nil, List.cons_append, List.nil_append, List.length_cons, List.length_nil, List.replicate, Nat.reduceAdd, Nat.reduceSub, Nat.zero_add, reduceIte, Bool.false_eq_true, Bool.true_eq_false, Bool.false_bne, Bool.true_bne, Bool.not_true, Bool.not_false, Bool.not_not, List.reverse_cons, List.reverse_nil, Option.map_some, Option.map_none, up_same, uSet, atI_zero, atI_one, ixN_20, ixN_zero, List.set_cons_zero, uPow, optN, trG]
          exact none_ (by unfold wordsP; simp only [h0, if_pos, ef]) _ _ _ _ G3 L3
        | some n =>
          simp only [inH_xc, inH_fn, inH_gl, trJ, uFmt, uXf, uXi, gam_hf, gam_xc, tab_kin, trSs, trS, trE, trT, trX, pl, trA, trO, trC, trI, uBin_s, uUn_s, uVar_s, uC_s, getS, setS, uOp, uAdd, uSub, uMul, uDiv, uMod, uPow, uNeg, uCmp, uEqF, uLt, uLe, uGt, uGe, uIsF, isNonU, uTru, Blt.fn, uAbs, uMax2, uMin2, uInt, startU, gam_fn, gam_gl, tab_xcs, tab_sub, UD_nx, UD_rt, UD_bk, UD_ct, UD_ex, spAt, glAt, gls, List.map_cons, List.map_nil, List.cons_append, List.nil_append, List.length_cons, List.length_nil, List.replicate, Nat.reduceAdd, Nat.reduceSub, Nat.zero_add, reduceIte, Bool.false_eq_true, Bool.true_eq_false, Bool.false_bne, Bool.true_bne, Bool.not_true, Bool.not_false, Bool.not_not, List.reverse_cons, List.reverse_nil, Option.map_some, Option.map_none, up_same, uSet, atI_zero, atI_one, ixN_20, ixN_zero, List.set_cons_zero, uPow, optN, trG, t8_read_sound, uIsF, isNonU]
          by_cases hn : 20000 < n
          · simp only [inH_xc, inH_fn, inH_gl, trJ, uFmt, uXf, uXi, gam_hf, gam_xc, tab_kin, trSs, trS, trE, trT, trX, pl, trA, trO, trC, trI, uBin_s, uUn_s, uVar_s, uC_s, getS, setS, uOp, uAdd, uSub, uMul, uDiv, uMod, uPow, uNeg, uCmp, uEqF, uLt, uLe, uGt, uGe, uIsF, isNonU, uTru, Blt.fn, uAbs, uMax2, uMin2, uInt, startU, gam_fn, gam_gl, tab_xcs, tab_sub, UD_nx, UD_rt, UD_bk, UD_ct, UD_ex, spAt, glAt, gls, List.map_cons, List.map_nil, List.cons_append, List.nil_append, List.length_cons, List.length_nil, List.replicate, Nat.reduceAdd, Nat.reduceSub, Nat.zero_add, reduceIte, Bool.false_eq_true, Bool.true_eq_false, Bool.false_bne, Bool.true_bne, Bool.not_true, Bool.not_false, Bool.not_not, List.reverse_cons, List.reverse_nil, Option.map_some, Option.map_none, up_same, uSet, atI_zero, atI_one, ixN_20, ixN_zero, List.set_cons_zero, uPow, show decide ((20000 : Int) < (n : Int)) = true from decide_eq_true (by omega)]
            have hw : wordsP (w0 :: w1 :: ws) = none := by unfold wordsP; simp only [h0, if_pos, ef, hn]
            rw [hw] at q
            exact ⟨rfl, fin.of (q G3 L3)⟩
          · simp only [inH_xc, inH_fn, inH_gl, trJ, uFmt, uXf, uXi, gam_hf, gam_xc, tab_kin, trSs, trS, trE, trT, trX, pl, trA, trO, trC, trI, uBin_s, uUn_s, uVar_s, uC_s, getS, setS, uOp, uAdd, uSub, uMul, uDiv, uMod, uPow, uNeg, uCmp, uEqF, uLt, uLe, uGt, uGe, uIsF, isNonU, uTru, Blt.fn, uAbs, uMax2, uMin2, uInt, startU, gam_fn, gam_gl, tab_xcs, tab_sub, UD_nx, UD_rt, UD_bk, UD_ct, UD_ex, spAt, glAt, gls, List.map_cons, List.map_nil, List.cons_append, List.nil_append, List.length_cons, List.length_nil, List.replicate, Nat.reduceAdd, Nat.reduceSub, Nat.zero_add, reduceIte, Bool.false_eq_true, Bool.true_eq_false, Bool.false_bne, Bool.true_bne, Bool.not_true, Bool.not_false, Bool.not_not, List.reverse_cons, List.reverse_nil, Option.map_some, Option.map_none, up_same, uSet, atI_zero, atI_one, ixN_20, ixN_zero, List.set_cons_zero, uPow, show decide ((20000 : Int) < (n : Int)) = false from decide_eq_false (by omega), t7_read_sound]
            have hw : wordsP (w0 :: w1 :: ws) = goP n ws [] none := by unfold wordsP; simp only [h0, if_pos, ef]; rw [if_neg hn]
            rw [hw] at q
            refine ⟨by omega, fun W hW => ?_⟩
            have L4 := Le.new (o := .lst []) hW
            have eW : UL.up G3 W (.lst []) W = some (.lst []) := up_same
            have e4 := L4 _ _ (l3 _ _ e1)
            have hWG : G3 W = none := hW
            generalize UL.up G3 W (.lst []) = G4 at L4 eW e4 ⊢
            simp only [inH_xc, inH_fn, inH_gl, trJ, uFmt, uXf, uXi, gam_hf, gam_xc, tab_kin, trSs, trS, trE, trT, trX, pl, trA, trO, trC, trI, uBin_s, uUn_s, uVar_s, uC_s, getS, setS, uOp, uAdd, uSub, uMul, uDiv, uMod, uPow, uNeg, uCmp, uEqF, uLt, uLe, uGt, uGe, uIsF, isNonU, uTru, Blt.fn, uAbs, uMax2, uMin2, uInt, startU, gam_fn, gam_gl, tab_xcs, tab_sub, UD_nx, UD_rt, UD_bk, UD_ct, UD_ex, spAt, glAt, gls, List.map_cons, List.map_nil, List.cons_append, List.nil_append, List.length_cons, List.length_nil, List.replicate, Nat.reduceAdd, Nat.reduceSub, Nat.zero_add, reduceIte, Bool.false_eq_true, Bool.true_eq_false, Bool.false_bne, Bool.true_bne, Bool.not_true, Bool.not_false, Bool.not_not, List.reverse_cons, List.reverse_nil, Option.map_some, Option.map_none, up_same, uSet, atI_zero, atI_one, ixN_20, ixN_zero, List.set_cons_zero, uPow, t6_read_sound, uSl, e4]
            intro r2 hr2
            rw [show wU (w0 :: w1 :: ws) = U.str (SX.S w0) :: U.str (SX.S w1) :: wU ws from rfl, cutU2]
            have nr : r2 ≠ W := fun z => by subst z; rw [hr2] at eW; cases eW
            have hr3 : G3 r2 = none := by
              cases ee : G3 r2 with
              | none => rfl
              | some o => rw [L4 _ _ ee] at hr2; cases hr2
            have L5 : Le G (UL.up G3 r2 (.lst (wU ws))) := L3.trans (.new hr3)
            have L6 : Le (UL.up G3 r2 (.lst (wU ws))) (UL.up G4 r2 (.lst (wU ws))) := Le.up L4
            have b1 : UL.up G3 r2 (.lst (wU ws)) W = none := by rw [up_ne nr.symm]; exact hWG
            have b2 : UL.up G3 r2 (.lst (wU ws)) r2 = some (.lst (wU ws)) := up_same
            have b3 : UL.up G4 r2 (.lst (wU ws)) r2 = some (.lst (wU ws)) := up_same
            have b4 : UL.up G4 r2 (.lst (wU ws)) W = some (.lst []) := by rw [up_ne nr.symm]; exact eW
            generalize UL.up G3 r2 (.lst (wU ws)) = G0 at L5 L6 b1 b2
            generalize UL.up G4 r2 (.lst (wU ws)) = G5 at L6 b3 b4 ⊢
            unfold seqOf
            simp only [b3]
            refine l_read (by omega) b1 b2 _ ws [] none _ _ G5 (fun w hw => by have := hb w (by simp [hw]); omega) (by simp) L6 b4 (fun h s G' l' => ?_) fun acc' b o5 o6 G' h hl' l' e' => ?_
            · rw [h] at q
              exact fin.of (q G' (L5.trans l'))
            · rw [h] at q
              simp only [inH_xc, inH_fn, inH_gl, trJ, uFmt, uXf, uXi, gam_hf, gam_xc, tab_kin, trSs, trS, trE, trT, trX, pl, trA, trO, trC, trI, uBin_s, uUn_s, uVar_s, uC_s, getS, setS, uOp, uAdd, uSub, uMul, uDiv, uMod, uPow, uNeg, uCmp, uEqF, uLt, uLe, uGt, uGe, uIsF, isNonU, uTru, Blt.fn, uAbs, uMax2, uMin2, uInt, startU, gam_fn, gam_gl, tab_xcs, tab_sub, UD_nx, UD_rt, UD_bk, UD_ct, UD_ex, spAt, glAt, gls, List.map_cons, List.map_nil, List.cons_append, List.nil_append, List.length_cons, List.length_nil, List.replicate, Nat.reduceAdd, Nat.reduceSub, Nat.zero_add, reduceIte, Bool.false_eq_true, Bool.true_eq_false, Bool.false_bne, Bool.true_bne, Bool.not_true, Bool.not_false, Bool.not_not, List.reverse_cons, List.reverse_nil, Option.map_some, Option.map_none, up_same, uSet, atI_zero, atI_one, ixN_20, ixN_zero, List.set_cons_zero, uPow, t5_read_sound]
              refine len_sq (.inr ⟨_, rfl, e'⟩) ?_
              simp only [inH_xc, inH_fn, inH_gl, trJ, uFmt, uXf, uXi, gam_hf, gam_xc, tab_kin, trSs, trS, trE, trT, trX, pl, trA, trO, trC, trI, uBin_s, uUn_s, uVar_s, uC_s, getS, setS, uOp, uAdd, uSub, uMul, uDiv, uMod, uPow, uNeg, uCmp, uEqF, uLt, uLe, uGt, uGe, uIsF, isNonU, uTru, Blt.fn, uAbs, uMax2, uMin2, uInt, startU, gam_fn, gam_gl, tab_xcs, tab_sub, UD_nx, UD_rt, UD_bk, UD_ct, UD_ex, spAt, glAt, gls, List.map_cons, List.map_nil, List.cons_append, List.nil_append, List.length_cons, List.length_nil, List.replicate, Nat.reduceAdd, Nat.reduceSub, Nat.zero_add, reduceIte, Bool.false_eq_true, Bool.true_eq_false, Bool.false_bne, Bool.true_bne, Bool.not_true, Bool.not_false, Bool.not_not, List.reverse_cons, List.reverse_nil, Option.map_some, Option.map_none, up_same, uSet, atI_zero, atI_one, ixN_20, ixN_zero, List.set_cons_zero, uPow, List.length_map]
              by_cases hh : acc'.length = n
              · rw [if_pos hh] at q
                simp only [inH_xc, inH_fn, inH_gl, trJ, uFmt, uXf, uXi, gam_hf, gam_xc, tab_kin, trSs, trS, trE, trT, trX, pl, trA, trO, trC, trI, uBin_s, uUn_s, uVar_s, uC_s, getS, setS, uOp, uAdd, uSub, uMul, uDiv, uMod, uPow, uNeg, uCmp, uEqF, uLt, uLe, uGt, uGe, uIsF, isNonU, uTru, Blt.fn, uAbs, uMax2, uMin2, uInt, startU, gam_fn, gam_gl, tab_xcs, tab_sub, UD_nx, UD_rt, UD_bk, UD_ct, UD_ex, spAt, glAt, gls, List.map_cons, List.map_nil, List.cons_append, List.nil_append, List.length_cons, List.length_nil, List.replicate, Nat.reduceAdd, Nat.reduceSub, Nat.zero_add, reduceIte, Bool.false_eq_true, Bool.true_eq_false, Bool.false_bne, Bool.true_bne, Bool.not_true, Bool.not_false, Bool.not_not, List.reverse_cons, List.reverse_nil, Option.map_some, Option.map_none, up_same, uSet, atI_zero, atI_one, ixN_20, ixN_zero, List.set_cons_zero, uPow, show decide (((acc'.length : Nat) : Int) = (n : Int)) = true from decide_eq_true (by omega), t4_read_sound]
                unfold uTuple
                simp only [e']
                exact fin.of (q G' (L5.trans l'))
              · rw [if_neg hh] at q
                simp only [inH_xc, inH_fn, inH_gl, trJ, uFmt, uXf, uXi, gam_hf, gam_xc, tab_kin, trSs, trS, trE, trT, trX, pl, trA, trO, trC, trI, uBin_s, uUn_s, uVar_s, uC_s, getS, setS, uOp, uAdd, uSub, uMul, uDiv, uMod, uPow, uNeg, uCmp, uEqF, uLt, uLe, uGt, uGe, uIsF, isNonU, uTru, Blt.fn, uAbs, uMax2, uMin2, uInt, startU, gam_fn, gam_gl, tab_xcs, tab_sub, UD_nx, UD_rt, UD_bk, UD_ct, UD_ex, spAt, glAt, gls, List.map_cons, List.map_nil, List.cons_append, List.nil_append, List.length_cons, List.length_nil, List.replicate, Nat.reduceAdd, Nat.reduceSub, Nat.zero_add, reduceIte, Bool.false_eq_true, Bool.true_eq_false, Bool.false_bne, Bool.true_bne, Bool.not_true, Bool.not_false, Bool.not_not, List.reverse_cons, List.reverse_nil, Option.map_some, Option.map_none, up_same, uSet, atI_zero, atI_one, ixN_20, ixN_zero, List.set_cons_zero, uPow, show decide (((acc'.length : Nat) : Int) = (n : Int)) = false from decide_eq_false (by omega)]
                exact ⟨rfl, fin.of (q G' (L5.trans l'))⟩
      · simp only [inH_xc, inH_fn, inH_gl, trJ, uFmt, uXf, uXi, gam_hf, gam_xc, tab_kin, trSs, trS, trE, trT, trX, pl, trA, trO, trC, trI, uBin_s, uUn_s, uVar_s, uC_s, getS, setS, uOp, uAdd, uSub, uMul, uDiv, uMod, uPow, uNeg, uCmp, uEqF, uLt, uLe, uGt, uGe, uIsF, isNonU, uTru, Blt.fn, uAbs, uMax2, uMin2, uInt, startU, gam_fn, gam_gl, tab_xcs, tab_sub, UD_nx, UD_rt, UD_bk, UD_ct, UD_ex, spAt, glAt, gls, List.map_cons, List.map_nil, List.cons_append, List.nil_append, List.length_cons, List.length_nil, List.replicate, Nat.reduceAdd, Nat.reduceSub, Nat.zero_add, reduceIte, Bool.false_eq_true, Bool.true_eq_false, Bool.false_bne, Bool.true_bne, Bool.not_true, Bool.not_false, Bool.not_not, List.reverse_cons, List.reverse_nil, Option.map_some, Option.map_none, up_same, uSet, atI_zero, atI_one, ixN_20, ixN_zero, List.set_cons_zero, uPow, h0, decide_false, trG]
        exact none_ (by unfold wordsP; simp only [h0, if_neg, not_false_eq_true]) _ _ _ _ G2 L1
end K81
set_option Elab.async false
set_option linter.all false
set_option autoImplicit false
set_option maxRecDepth 100000
set_option maxHeartbeats 4000000
set_option pp.maxSteps 1500
set_option pp.deepTerms false
namespace K81
open PySem PySem.Spec L2 UL
/-! ### the deck -/
def Dk (G : UH) (p g : Addr) : Prop := p ≠ g ∧ ∃ (st c : Int) (gr : List Int), G p = some (.lst [.int st, .ref g, .int c]) ∧ G g = some (.lst (gr.map U.int))
theorem Dk.le {G G' : UH} {p g : Addr} (h : Dk G p g) (l : Le G G') : Dk G' p g := by
  obtain ⟨n, st, c, gr, h1, h2⟩ := h
  exact ⟨n, st, c, gr, l _ _ h1, l _ _ h2⟩
theorem Dk.upn {G : UH} {p g a : Addr} {o : UO} (h : Dk G p g) (h1 : p ≠ a) (h2 : g ≠ a) : Dk (UL.up G a o) p g := by
  obtain ⟨n, st, c, gr, e1, e2⟩ := h
  exact ⟨n, st, c, gr, by rw [up_ne h1]; exact e1, by rw [up_ne h2]; exact e2⟩
theorem Dk.ne {G : UH} {p g a : Addr} (h : Dk G p g) (ha : G a = none) : p ≠ a ∧ g ≠ a := by
  obtain ⟨n, st, c, gr, e1, e2⟩ := h
  exact ⟨un_of e1 ha, un_of e2 ha⟩
def sp__law_deck : USp := fun us G Q _ => ∃ ns : List Int, us = [.rol (ns.map U.int)] ∧ ns.length ≤ 63 ∧ ∀ p g G', Dk G' p g → Le G G' → Q (.ref p) G'
def cl__law_deck : List (Str × USp) := []
theorem l__law_deck {G0 : UH} {ns : List Int} {g : Addr} (hn : ns.length ≤ 63) (D : UE) (qn : ∀ (sd : Int) (o o2 : Option U) (gr : List Int) (G : UH), Le G0 G → G g = some (.lst (gr.map U.int)) → D.nx [some (.rol (ns.map U.int)), some (.int sd), some (.ref g), o, o2] G) (hg0 : G0 g = none) :
    ∀ (ks : List Int) (sd : Int) (o o2 : Option U) (gr : List Int) (G : UH), (∀ k ∈ ks, 0 ≤ k ∧ k < ns.length) → gr.length + ks.length ≤ 63 → Le G0 G → G g = some (.lst (gr.map U.int)) →
    forU [] (trG (.nm 3)) (trSs (TB cl__law_deck) (GM cl__law_deck) l1__law_deck) D (List.map U.int ks) [some (.rol (ns.map U.int)), some (.int sd), some (.ref g), o, o2] G
  | [], sd, o, o2, gr, G, _, _, l, hg => ⟨trivial, qn sd o o2 gr G l hg⟩
  | k :: ks, sd, o, o2, gr, G, hk, hl, l, hg => by
    refine ⟨trivial, ?_⟩
    generalize hT : forU _ _ _ D (List.map U.int ks) = T
    obtain ⟨k0, k1⟩ := hk k List.mem_cons_self
    have lg := line_ge
    have hl2 : gr.length + ks.length + 1 ≤ 63 := by simp only [List.length_cons] at hl; omega
    simp only [inH_xc, inH_fn, inH_gl, trJ, uFmt, uXf, uXi, gam_hf, gam_xc, tab_kin, trSs, trS, trE, trT, trX, pl, trA, trO, trC, trI, uBin_s, uUn_s, uVar_s, uC_s, getS, setS, uOp, uAdd, uSub, uMul, uDiv, uMod, uPow, uNeg, uCmp, uEqF, uLt, uLe, uGt, uGe, uIsF, isNonU, uTru, Blt.fn, uLen, uAbs, uMax2, uMin2, uInt, uIx, startU, gam_fn, gam_gl, tab_xcs, tab_sub, UD_nx, UD_rt, UD_bk, UD_ct, UD_ex, spAt, glAt, gls, seqOf, List.map_cons, List.map_nil, List.cons_append, List.nil_append, List.length_cons, List.length_nil, List.replicate, Nat.reduceAdd, Nat.reduceSub, Nat.zero_add, reduceIte, Bool.false_eq_true, Bool.true_eq_false, Bool.false_bne, Bool.true_bne, Bool.not_true, Bool.not_false, Bool.not_not, List.reverse_cons, List.reverse_nil, Option.map_some, Option.map_none, up_same, uTuple, uList, uSet, atI_zero, atI_one, ixN_20, ixN_zero, List.set_cons_zero, uPow, trG, l1__law_deck, atI_int k0 k1]
    simp only [inH_xc, inH_fn, inH_gl, trJ, uFmt, uXf, uXi, gam_hf, gam_xc, tab_kin, trSs, trS, trE, trT, trX, pl, trA, trO, trC, trI, uBin_s, uUn_s, uVar_s, uC_s, getS, setS, uOp, uAdd, uSub, uMul, uDiv, uMod, uPow, uNeg, uCmp, uEqF, uLt, uLe, uGt, uGe, uIsF, isNonU, uTru, Blt.fn, uLen, uAbs, uMax2, uMin2, uInt, uIx, startU, gam_fn, gam_gl, tab_xcs, tab_sub, UD_nx, UD_rt, UD_bk, UD_ct, UD_ex, spAt, glAt, gls, seqOf, List.map_cons, List.map_nil, List.cons_append, List.nil_append, List.length_cons, List.length_nil, List.replicate, Nat.reduceAdd, Nat.reduceSub, Nat.zero_add, reduceIte, Bool.false_eq_true, Bool.true_eq_false, Bool.false_bne, Bool.true_bne, Bool.not_true, Bool.not_false, Bool.not_not, List.reverse_cons, List.reverse_nil, Option.map_some, Option.map_none, up_same, uTuple, uList, uSet, atI_zero, atI_one, ixN_20, ixN_zero, List.set_cons_zero, uPow, t2__law_deck]
    have fin1 : ∀ (gr' : List Int) (G1 : UH) (c : Int), gr'.length + ks.length ≤ 63 → Le G0 G1 → G1 g = some (.lst (gr'.map U.int)) → ∀ sd', ∃ G3, Le G3 G1 ∧ T [some (.rol (ns.map U.int)), some (.int sd'), some (.ref g), some (.int k), some (.int c)] G3 := by
      intro gr' G1 c h1 h2 h3 sd'
      subst hT
      exact ⟨G1, .refl _, l__law_deck hn D qn hg0 ks sd' _ _ gr' G1 (fun x hx => hk x (List.mem_cons_of_mem _ hx)) h1 h2 h3⟩
    refine ⟨mulR (by decide) (by decide), by omega, mulL (by decide) (by decide), by omega, ?_⟩
    simp only [inH_xc, inH_fn, inH_gl, trJ, uFmt, uXf, uXi, gam_hf, gam_xc, tab_kin, trSs, trS, trE, trT, trX, pl, trA, trO, trC, trI, uBin_s, uUn_s, uVar_s, uC_s, getS, setS, uOp, uAdd, uSub, uMul, uDiv, uMod, uPow, uNeg, uCmp, uEqF, uLt, uLe, uGt, uGe, uIsF, isNonU, uTru, Blt.fn, uLen, uAbs, uMax2, uMin2, uInt, uIx, startU, gam_fn, gam_gl, tab_xcs, tab_sub, UD_nx, UD_rt, UD_bk, UD_ct, UD_ex, spAt, glAt, gls, seqOf, List.map_cons, List.map_nil, List.cons_append, List.nil_append, List.length_cons, List.length_nil, List.replicate, Nat.reduceAdd, Nat.reduceSub, Nat.zero_add, reduceIte, Bool.false_eq_true, Bool.true_eq_false, Bool.false_bne, Bool.true_bne, Bool.not_true, Bool.not_false, Bool.not_not, List.reverse_cons, List.reverse_nil, Option.map_some, Option.map_none, up_same, uTuple, uList, uSet, atI_zero, atI_one, ixN_20, ixN_zero, List.set_cons_zero, uPow, t1__law_deck]
    refine ⟨⟨by decide, by decide, by decide⟩, ?_⟩
    by_cases hc : (10 : Int) ^ (18 : Int).toNat ≤ ns.getD k.toNat 0
    · simp only [inH_xc, inH_fn, inH_gl, trJ, uFmt, uXf, uXi, gam_hf, gam_xc, tab_kin, trSs, trS, trE, trT, trX, pl, trA, trO, trC, trI, uBin_s, uUn_s, uVar_s, uC_s, getS, setS, uOp, uAdd, uSub, uMul, uDiv, uMod, uPow, uNeg, uCmp, uEqF, uLt, uLe, uGt, uGe, uIsF, isNonU, uTru, Blt.fn, uLen, uAbs, uMax2, uMin2, uInt, uIx, startU, gam_fn, gam_gl, tab_xcs, tab_sub, UD_nx, UD_rt, UD_bk, UD_ct, UD_ex, spAt, glAt, gls, seqOf, List.map_cons, List.map_nil, List.cons_append, List.nil_append, List.length_cons, List.length_nil, List.replicate, Nat.reduceAdd, Nat.reduceSub, Nat.zero_add, reduceIte, Bool.false_eq_true, Bool.true_eq_false, Bool.false_bne, Bool.true_bne, Bool.not_true, Bool.not_false, Bool.not_not, List.reverse_cons, List.reverse_nil, Option.map_some, Option.map_none, up_same, uTuple, uList, uSet, atI_zero, atI_one, ixN_20, ixN_zero, List.set_cons_zero, uPow, hc, decide_true, mTy, hg, Mth.T, Mth.fn, uL]
      refine ⟨trivial, by rw [List.length_map]; omega, ?_⟩
      refine fin1 (gr ++ [ns.getD k.toNat 0]) _ _ (by simp; omega) (fun a o e => ?_) (by rw [up_same, List.map_append]; rfl) _
      rw [up_ne (fun z => by subst z; rw [hg0] at e; cases e)]
      exact l a o e
    · simp only [inH_xc, inH_fn, inH_gl, trJ, uFmt, uXf, uXi, gam_hf, gam_xc, tab_kin, trSs, trS, trE, trT, trX, pl, trA, trO, trC, trI, uBin_s, uUn_s, uVar_s, uC_s, getS, setS, uOp, uAdd, uSub, uMul, uDiv, uMod, uPow, uNeg, uCmp, uEqF, uLt, uLe, uGt, uGe, uIsF, isNonU, uTru, Blt.fn, uLen, uAbs, uMax2, uMin2, uInt, uIx, startU, gam_fn, gam_gl, tab_xcs, tab_sub, UD_nx, UD_rt, UD_bk, UD_ct, UD_ex, spAt, glAt, gls, seqOf, List.map_cons, List.map_nil, List.cons_append, List.nil_append, List.length_cons, List.length_nil, List.replicate, Nat.reduceAdd, Nat.reduceSub, Nat.zero_add, reduceIte, Bool.false_eq_true, Bool.true_eq_false, Bool.false_bne, Bool.true_bne, Bool.not_true, Bool.not_false, Bool.not_not, List.reverse_cons, List.reverse_nil, Option.map_some, Option.map_none, up_same, uTuple, uList, uSet, atI_zero, atI_one, ixN_20, ixN_zero, List.set_cons_zero, uPow, hc, decide_false]
      exact fin1 gr _ _ (by omega) l hg _
theorem w__law_deck (us : List U) (G : UH) (Q : UK) (E : UXn → UH → Prop) (h : sp__law_deck us G Q E) : trSs (TB cl__law_deck) (GM cl__law_deck) b__law_deck (UD Q E) (startU n__law_deck us) G := by
  obtain ⟨ns, rfl, hn, q⟩ := h
  have lg := line_ge
  simp only [inH_xc, inH_fn, inH_gl, trJ, uFmt, uXf, uXi, gam_hf, gam_xc, tab_kin, trSs, trS, trE, trT, trX, pl, trA, trO, trC, trI, uBin_s, uUn_s, uVar_s, uC_s, getS, setS, uOp, uAdd, uSub, uMul, uDiv, uMod, uPow, uNeg, uCmp, uEqF, uLt, uLe, uGt, uGe, uIsF, isNonU, uTru, Blt.fn, uLen, uAbs, uMax2, uMin2, uInt, uIx, startU, gam_fn, gam_gl, tab_xcs, tab_sub, UD_nx, UD_rt, UD_bk, UD_ct, UD_ex, spAt, glAt, gls, seqOf, List.map_cons, List.map_nil, List.cons_append, List.nil_append, List.length_cons, List.length_nil, List.replicate, Nat.reduceAdd, Nat.reduceSub, Nat.zero_add, reduceIte, Bool.false_eq_true, Bool.true_eq_false, Bool.false_bne, Bool.true_bne, Bool.not_true, Bool.not_false, Bool.not_not, List.reverse_cons, List.reverse_nil, Option.map_some, Option.map_none, up_same, uTuple, uList, uSet, atI_zero, atI_one, ixN_20, ixN_zero, List.set_cons_zero, uPow, b__law_deck, n__law_deck, trG]
  simp only [inH_xc, inH_fn, inH_gl, trJ, uFmt, uXf, uXi, gam_hf, gam_xc, tab_kin, trSs, trS, trE, trT, trX, pl, trA, trO, trC, trI, uBin_s, uUn_s, uVar_s, uC_s, getS, setS, uOp, uAdd, uSub, uMul, uDiv, uMod, uPow, uNeg, uCmp, uEqF, uLt, uLe, uGt, uGe, uIsF, isNonU, uTru, Blt.fn, uLen, uAbs, uMax2, uMin2, uInt, uIx, startU, gam_fn, gam_gl, tab_xcs, tab_sub, UD_nx, UD_rt, UD_bk, UD_ct, UD_ex, spAt, glAt, gls, seqOf, List.map_cons, List.map_nil, List.cons_append, List.nil_append, List.length_cons, List.length_nil, List.replicate, Nat.reduceAdd, Nat.reduceSub, Nat.zero_add, reduceIte, Bool.false_eq_true, Bool.true_eq_false, Bool.false_bne, Bool.true_bne, Bool.not_true, Bool.not_false, Bool.not_not, List.reverse_cons, List.reverse_nil, Option.map_some, Option.map_none, up_same, uTuple, uList, uSet, atI_zero, atI_one, ixN_20, ixN_zero, List.set_cons_zero, uPow, t5__law_deck, trG]
  refine ⟨by omega, fun g hg => ?_⟩
  simp only [inH_xc, inH_fn, inH_gl, trJ, uFmt, uXf, uXi, gam_hf, gam_xc, tab_kin, trSs, trS, trE, trT, trX, pl, trA, trO, trC, trI, uBin_s, uUn_s, uVar_s, uC_s, getS, setS, uOp, uAdd, uSub, uMul, uDiv, uMod, uPow, uNeg, uCmp, uEqF, uLt, uLe, uGt, uGe, uIsF, isNonU, uTru, Blt.fn, uLen, uAbs, uMax2, uMin2, uInt, uIx, startU, gam_fn, gam_gl, tab_xcs, tab_sub, UD_nx, UD_rt, UD_bk, UD_ct, UD_ex, spAt, glAt, gls, seqOf, List.map_cons, List.map_nil, List.cons_append, List.nil_append, List.length_cons, List.length_nil, List.replicate, Nat.reduceAdd, Nat.reduceSub, Nat.zero_add, reduceIte, Bool.false_eq_true, Bool.true_eq_false, Bool.false_bne, Bool.true_bne, Bool.not_true, Bool.not_false, Bool.not_not, List.reverse_cons, List.reverse_nil, Option.map_some, Option.map_none, up_same, uTuple, uList, uSet, atI_zero, atI_one, ixN_20, ixN_zero, List.set_cons_zero, uPow, t4__law_deck, List.length_map]
  refine ⟨by unfold small62; omega, ?_⟩
  rw [rangeU_map]
  refine l__law_deck (G0 := G) (g := g) hn _ (fun sd o o2 gr G1 l h1 => ?_) hg _ _ none none [] _ (fun k hk => ?_) (by rw [rangeI_len]; simp; omega) (.new hg) up_same
  · simp only [inH_xc, inH_fn, inH_gl, trJ, uFmt, uXf, uXi, gam_hf, gam_xc, tab_kin, trSs, trS, trE, trT, trX, pl, trA, trO, trC, trI, uBin_s, uUn_s, uVar_s, uC_s, getS, setS, uOp, uAdd, uSub, uMul, uDiv, uMod, uPow, uNeg, uCmp, uEqF, uLt, uLe, uGt, uGe, uIsF, isNonU, uTru, Blt.fn, uLen, uAbs, uMax2, uMin2, uInt, uIx, startU, gam_fn, gam_gl, tab_xcs, tab_sub, UD_nx, UD_rt, UD_bk, UD_ct, UD_ex, spAt, glAt, gls, seqOf, List.map_cons, List.map_nil, List.cons_append, List.nil_append, List.length_cons, List.length_nil, List.replicate, Nat.reduceAdd, Nat.reduceSub, Nat.zero_add, reduceIte, Bool.false_eq_true, Bool.true_eq_false, Bool.false_bne, Bool.true_bne, Bool.not_true, Bool.not_false, Bool.not_not, List.reverse_cons, List.reverse_nil, Option.map_some, Option.map_none, up_same, uTuple, uList, uSet, atI_zero, atI_one, ixN_20, ixN_zero, List.set_cons_zero, uPow, t3__law_deck]
    refine ⟨by omega, fun p hp => fin.of ?_⟩
    have n : p ≠ g := fun z => by subst z; rw [hp] at h1; cases h1
    exact q p g _ ⟨n, sd, 0, gr, up_same, by rw [up_ne n.symm]; exact h1⟩ (l.trans (.new hp))
  · obtain ⟨i, hi, e⟩ := rangeI_mem hk
    omega
def sp__law_take : USp := fun us G Q _ => ∃ p g many, us = [.ref p, .int many] ∧ Dk G p g ∧ 0 < many ∧ many < 1073741824 ∧ ∀ r G', 0 ≤ r → r < many → Dk G' p g → Fr p g G G' → Q (.int r) G'
def cl__law_take : List (Str × USp) := []
theorem atI_two {x y z : U} {xs : List U} : atI (x :: y :: z :: xs) 2 = some z := by
  unfold atI ixN
  rw [if_pos (by decide), if_pos (by simp only [List.length_cons]; omega)]
  rfl
theorem w__law_take (us : List U) (G : UH) (Q : UK) (E : UXn → UH → Prop) (h : sp__law_take us G Q E) : trSs (TB cl__law_take) (GM cl__law_take) b__law_take (UD Q E) (startU n__law_take us) G := by
  obtain ⟨p, g, many, rfl, ⟨hpg, st, c0, gr, hp, hg⟩, m1, m2, q⟩ := h
  have lg := line_ge
  have rr : ∀ x : Int, 0 ≤ x % many ∧ x % many < many := fun x => ⟨Int.emod_nonneg _ (by omega), Int.emod_lt_of_pos _ m1⟩
  simp only [inH_xc, inH_fn, inH_gl, trJ, uFmt, uXf, uXi, gam_hf, gam_xc, tab_kin, trSs, trS, trE, trT, trX, pl, trA, trO, trC, trI, uBin_s, uUn_s, uVar_s, uC_s, getS, setS, uOp, uAdd, uSub, uMul, uDiv, uMod, uPow, uNeg, uCmp, uEqF, uLt, uLe, uGt, uGe, uIsF, isNonU, uTru, Blt.fn, uLen, uAbs, uMax2, uMin2, uInt, uIx, startU, gam_fn, gam_gl, tab_xcs, tab_sub, UD_nx, UD_rt, UD_bk, UD_ct, UD_ex, spAt, glAt, gls, seqOf, List.map_cons, List.map_nil, List.cons_append, List.nil_append, List.length_cons, List.length_nil, List.replicate, Nat.reduceAdd, Nat.reduceSub, Nat.zero_add, reduceIte, Bool.false_eq_true, Bool.true_eq_false, Bool.false_bne, Bool.true_bne, Bool.not_true, Bool.not_false, Bool.not_not, List.reverse_cons, List.reverse_nil, Option.map_some, Option.map_none, up_same, uTuple, uList, uSet, atI_zero, atI_one, ixN_20, ixN_zero, List.set_cons_zero, uPow, b__law_take, n__law_take, trG, hp]
  simp only [inH_xc, inH_fn, inH_gl, trJ, uFmt, uXf, uXi, gam_hf, gam_xc, tab_kin, trSs, trS, trE, trT, trX, pl, trA, trO, trC, trI, uBin_s, uUn_s, uVar_s, uC_s, getS, setS, uOp, uAdd, uSub, uMul, uDiv, uMod, uPow, uNeg, uCmp, uEqF, uLt, uLe, uGt, uGe, uIsF, isNonU, uTru, Blt.fn, uLen, uAbs, uMax2, uMin2, uInt, uIx, startU, gam_fn, gam_gl, tab_xcs, tab_sub, UD_nx, UD_rt, UD_bk, UD_ct, UD_ex, spAt, glAt, gls, seqOf, List.map_cons, List.map_nil, List.cons_append, List.nil_append, List.length_cons, List.length_nil, List.replicate, Nat.reduceAdd, Nat.reduceSub, Nat.zero_add, reduceIte, Bool.false_eq_true, Bool.true_eq_false, Bool.false_bne, Bool.true_bne, Bool.not_true, Bool.not_false, Bool.not_not, List.reverse_cons, List.reverse_nil, Option.map_some, Option.map_none, up_same, uTuple, uList, uSet, atI_zero, atI_one, ixN_20, ixN_zero, List.set_cons_zero, uPow, t7__law_take]
  refine ⟨by omega, fun e0 he0 => ?_⟩
  have L1 := Le.new (o := .lst []) he0
  have hp1 := L1 _ _ hp
  have hg1 := L1 _ _ hg
  have h0 : UL.up G e0 (.lst []) e0 = some (.lst (([] : List Int).map U.int)) := up_same
  generalize UL.up G e0 (.lst []) = G1 at L1 hp1 hg1 h0 ⊢
  rw [dOf_lst hg1, dOf_lst h0]
  refine ⟨shaped_lst _, shaped_lst _, ?_⟩
  rw [eqv_lst]
  cases gr with
  | nil =>
    simp only [inH_xc, inH_fn, inH_gl, trJ, uFmt, uXf, uXi, gam_hf, gam_xc, tab_kin, trSs, trS, trE, trT, trX, pl, trA, trO, trC, trI, uBin_s, uUn_s, uVar_s, uC_s, getS, setS, uOp, uAdd, uSub, uMul, uDiv, uMod, uPow, uNeg, uCmp, uEqF, uLt, uLe, uGt, uGe, uIsF, isNonU, uTru, Blt.fn, uLen, uAbs, uMax2, uMin2, uInt, uIx, startU, gam_fn, gam_gl, tab_xcs, tab_sub, UD_nx, UD_rt, UD_bk, UD_ct, UD_ex, spAt, glAt, gls, seqOf, List.map_cons, List.map_nil, List.cons_append, List.nil_append, List.length_cons, List.length_nil, List.replicate, Nat.reduceAdd, Nat.reduceSub, Nat.zero_add, reduceIte, Bool.false_eq_true, Bool.true_eq_false, Bool.false_bne, Bool.true_bne, Bool.not_true, Bool.not_false, Bool.not_not, List.reverse_cons, List.reverse_nil, Option.map_some, Option.map_none, up_same, uTuple, uList, uSet, atI_zero, atI_one, ixN_20, ixN_zero, List.set_cons_zero, uPow, show decide (([] : List Int) = []) = true from rfl, t6__law_take, hp1]
    refine ⟨mulR (by decide) (by decide), by omega, ?_⟩
    simp only [inH_xc, inH_fn, inH_gl, trJ, uFmt, uXf, uXi, gam_hf, gam_xc, tab_kin, trSs, trS, trE, trT, trX, pl, trA, trO, trC, trI, uBin_s, uUn_s, uVar_s, uC_s, getS, setS, uOp, uAdd, uSub, uMul, uDiv, uMod, uPow, uNeg, uCmp, uEqF, uLt, uLe, uGt, uGe, uIsF, isNonU, uTru, Blt.fn, uLen, uAbs, uMax2, uMin2, uInt, uIx, startU, gam_fn, gam_gl, tab_xcs, tab_sub, UD_nx, UD_rt, UD_bk, UD_ct, UD_ex, spAt, glAt, gls, seqOf, List.map_cons, List.map_nil, List.cons_append, List.nil_append, List.length_cons, List.length_nil, List.replicate, Nat.reduceAdd, Nat.reduceSub, Nat.zero_add, reduceIte, Bool.false_eq_true, Bool.true_eq_false, Bool.false_bne, Bool.true_bne, Bool.not_true, Bool.not_false, Bool.not_not, List.reverse_cons, List.reverse_nil, Option.map_some, Option.map_none, up_same, uTuple, uList, uSet, atI_zero, atI_one, ixN_20, ixN_zero, List.set_cons_zero, uPow, t5__law_take]
    refine ⟨divS (by decide) (by decide), by omega, mulR (by decide) (by decide), m1, fin.of ?_⟩
    exact q _ _ (rr _).1 (rr _).2 ⟨hpg, _, c0, [], up_same, by rw [up_ne hpg.symm]; exact hg1⟩ ((Fr.of_le L1).trans Fr.up1)
  | cons c t =>
    have hg' : G1 g = some (.lst (U.int c :: t.map U.int)) := hg1
    simp only [inH_xc, inH_fn, inH_gl, trJ, uFmt, uXf, uXi, gam_hf, gam_xc, tab_kin, trSs, trS, trE, trT, trX, pl, trA, trO, trC, trI, uBin_s, uUn_s, uVar_s, uC_s, getS, setS, uOp, uAdd, uSub, uMul, uDiv, uMod, uPow, uNeg, uCmp, uEqF, uLt, uLe, uGt, uGe, uIsF, isNonU, uTru, Blt.fn, uLen, uAbs, uMax2, uMin2, uInt, uIx, startU, gam_fn, gam_gl, tab_xcs, tab_sub, UD_nx, UD_rt, UD_bk, UD_ct, UD_ex, spAt, glAt, gls, seqOf, List.map_cons, List.map_nil, List.cons_append, List.nil_append, List.length_cons, List.length_nil, List.replicate, Nat.reduceAdd, Nat.reduceSub, Nat.zero_add, reduceIte, Bool.false_eq_true, Bool.true_eq_false, Bool.false_bne, Bool.true_bne, Bool.not_true, Bool.not_false, Bool.not_not, List.reverse_cons, List.reverse_nil, Option.map_some, Option.map_none, up_same, uTuple, uList, uSet, atI_zero, atI_one, ixN_20, ixN_zero, List.set_cons_zero, uPow, show decide (c :: t = ([] : List Int)) = false from rfl, trG, hg', t4__law_take]
    refine ⟨m1, divS m1 m2, ?_⟩
    have hp2 : UL.up G1 g (.lst (U.int (c / many) :: t.map U.int)) p = some (.lst [.int st, .ref g, .int c0]) := by rw [up_ne hpg]; exact hp1
    have hg2 : UL.up G1 g (.lst (U.int (c / many) :: t.map U.int)) g = some (.lst (U.int (c / many) :: t.map U.int)) := up_same
    have F2 : Fr p g G1 (UL.up G1 g (.lst (U.int (c / many) :: t.map U.int))) := Fr.up2
    generalize UL.up G1 g _ = G2 at hp2 hg2 F2 ⊢
    simp only [inH_xc, inH_fn, inH_gl, trJ, uFmt, uXf, uXi, gam_hf, gam_xc, tab_kin, trSs, trS, trE, trT, trX, pl, trA, trO, trC, trI, uBin_s, uUn_s, uVar_s, uC_s, getS, setS, uOp, uAdd, uSub, uMul, uDiv, uMod, uPow, uNeg, uCmp, uEqF, uLt, uLe, uGt, uGe, uIsF, isNonU, uTru, Blt.fn, uLen, uAbs, uMax2, uMin2, uInt, uIx, startU, gam_fn, gam_gl, tab_xcs, tab_sub, UD_nx, UD_rt, UD_bk, UD_ct, UD_ex, spAt, glAt, gls, seqOf, List.map_cons, List.map_nil, List.cons_append, List.nil_append, List.length_cons, List.length_nil, List.replicate, Nat.reduceAdd, Nat.reduceSub, Nat.zero_add, reduceIte, Bool.false_eq_true, Bool.true_eq_false, Bool.false_bne, Bool.true_bne, Bool.not_true, Bool.not_false, Bool.not_not, List.reverse_cons, List.reverse_nil, Option.map_some, Option.map_none, up_same, uTuple, uList, uSet, atI_zero, atI_one, ixN_20, ixN_zero, List.set_cons_zero, uPow, t3__law_take, hp2, atI_two, show ixN 3 2 = some 2 from rfl, List.set_cons_succ]
    have hp3 : UL.up G2 p (.lst [.int st, .ref g, .int (c0 + 1)]) p = some (.lst [.int st, .ref g, .int (c0 + 1)]) := up_same
    have hg3 : UL.up G2 p (.lst [.int st, .ref g, .int (c0 + 1)]) g = some (.lst (U.int (c / many) :: t.map U.int)) := by rw [up_ne hpg.symm]; exact hg2
    have F3 : Fr p g G (UL.up G2 p (.lst [.int st, .ref g, .int (c0 + 1)])) := ((Fr.of_le L1).trans F2).trans Fr.up1
    generalize UL.up G2 p _ = G3 at hp3 hg3 F3 ⊢
    have keep : ∀ nx, trSs (TB cl__law_take) (GM cl__law_take) t1__law_take ⟨nx, fun u G => fin (Q u) G, fun _ _ => False, fun _ _ => False, fun xn _ G => fin (E xn) G⟩ [some (.ref p), some (.int many), some (.ref g), some (.int (c % many))] G3 := fun nx => by
      simp only [inH_xc, inH_fn, inH_gl, trJ, uFmt, uXf, uXi, gam_hf, gam_xc, tab_kin, trSs, trS, trE, trT, trX, pl, trA, trO, trC, trI, uBin_s, uUn_s, uVar_s, uC_s, getS, setS, uOp, uAdd, uSub, uMul, uDiv, uMod, uPow, uNeg, uCmp, uEqF, uLt, uLe, uGt, uGe, uIsF, isNonU, uTru, Blt.fn, uLen, uAbs, uMax2, uMin2, uInt, uIx, startU, gam_fn, gam_gl, tab_xcs, tab_sub, UD_nx, UD_rt, UD_bk, UD_ct, UD_ex, spAt, glAt, gls, seqOf, List.map_cons, List.map_nil, List.cons_append, List.nil_append, List.length_cons, List.length_nil, List.replicate, Nat.reduceAdd, Nat.reduceSub, Nat.zero_add, reduceIte, Bool.false_eq_true, Bool.true_eq_false, Bool.false_bne, Bool.true_bne, Bool.not_true, Bool.not_false, Bool.not_not, List.reverse_cons, List.reverse_nil, Option.map_some, Option.map_none, up_same, uTuple, uList, uSet, atI_zero, atI_one, ixN_20, ixN_zero, List.set_cons_zero, uPow, t1__law_take]
      exact fin.of (q _ _ (rr _).1 (rr _).2 ⟨hpg, _, _, (c / many) :: t, hp3, hg3⟩ F3)
    have pops : ∀ nx, trSs (TB cl__law_take) (GM cl__law_take) t1__law_take ⟨nx, fun u G => fin (Q u) G, fun _ _ => False, fun _ _ => False, fun xn _ G => fin (E xn) G⟩ [some (.ref p), some (.int many), some (.ref g), some (.int (c % many))] (UL.up G3 g (.lst (t.map U.int))) := fun nx => by
      simp only [inH_xc, inH_fn, inH_gl, trJ, uFmt, uXf, uXi, gam_hf, gam_xc, tab_kin, trSs, trS, trE, trT, trX, pl, trA, trO, trC, trI, uBin_s, uUn_s, uVar_s, uC_s, getS, setS, uOp, uAdd, uSub, uMul, uDiv, uMod, uPow, uNeg, uCmp, uEqF, uLt, uLe, uGt, uGe, uIsF, isNonU, uTru, Blt.fn, uLen, uAbs, uMax2, uMin2, uInt, uIx, startU, gam_fn, gam_gl, tab_xcs, tab_sub, UD_nx, UD_rt, UD_bk, UD_ct, UD_ex, spAt, glAt, gls, seqOf, List.map_cons, List.map_nil, List.cons_append, List.nil_append, List.length_cons, List.length_nil, List.replicate, Nat.reduceAdd, Nat.reduceSub, Nat.zero_add, reduceIte, Bool.false_eq_true, Bool.true_eq_false, Bool.false_bne, Bool.true_bne, Bool.not_true, Bool.not_false, Bool.not_not, List.reverse_cons, List.reverse_nil, Option.map_some, Option.map_none, up_same, uTuple, uList, uSet, atI_zero, atI_one, ixN_20, ixN_zero, List.set_cons_zero, uPow, t1__law_take]
      exact fin.of (q _ _ (rr _).1 (rr _).2 ⟨hpg, _, _, t, by rw [up_ne hpg]; exact hp3, up_same⟩ (F3.trans Fr.up2))
    simp only [inH_xc, inH_fn, inH_gl, trJ, uFmt, uXf, uXi, gam_hf, gam_xc, tab_kin, trSs, trS, trE, trT, trX, pl, trA, trO, trC, trI, uBin_s, uUn_s, uVar_s, uC_s, getS, setS, uOp, uAdd, uSub, uMul, uDiv, uMod, uPow, uNeg, uCmp, uEqF, uLt, uLe, uGt, uGe, uIsF, isNonU, uTru, Blt.fn, uLen, uAbs, uMax2, uMin2, uInt, uIx, startU, gam_fn, gam_gl, tab_xcs, tab_sub, UD_nx, UD_rt, UD_bk, UD_ct, UD_ex, spAt, glAt, gls, seqOf, List.map_cons, List.map_nil, List.cons_append, List.nil_append, List.length_cons, List.length_nil, List.replicate, Nat.reduceAdd, Nat.reduceSub, Nat.zero_add, reduceIte, Bool.false_eq_true, Bool.true_eq_false, Bool.false_bne, Bool.true_bne, Bool.not_true, Bool.not_false, Bool.not_not, List.reverse_cons, List.reverse_nil, Option.map_some, Option.map_none, up_same, uTuple, uList, uSet, atI_zero, atI_one, ixN_20, ixN_zero, List.set_cons_zero, uPow, t2__law_take, hp3, atI_two]
    refine ⟨by decide, ?_⟩
    by_cases h1 : (c0 + 1) % 60 = 0
    · simp only [inH_xc, inH_fn, inH_gl, trJ, uFmt, uXf, uXi, gam_hf, gam_xc, tab_kin, trSs, trS, trE, trT, trX, pl, trA, trO, trC, trI, uBin_s, uUn_s, uVar_s, uC_s, getS, setS, uOp, uAdd, uSub, uMul, uDiv, uMod, uPow, uNeg, uCmp, uEqF, uLt, uLe, uGt, uGe, uIsF, isNonU, uTru, Blt.fn, uLen, uAbs, uMax2, uMin2, uInt, uIx, startU, gam_fn, gam_gl, tab_xcs, tab_sub, UD_nx, UD_rt, UD_bk, UD_ct, UD_ex, spAt, glAt, gls, seqOf, List.map_cons, List.map_nil, List.cons_append, List.nil_append, List.length_cons, List.length_nil, List.replicate, Nat.reduceAdd, Nat.reduceSub, Nat.zero_add, reduceIte, Bool.false_eq_true, Bool.true_eq_false, Bool.false_bne, Bool.true_bne, Bool.not_true, Bool.not_false, Bool.not_not, List.reverse_cons, List.reverse_nil, Option.map_some, Option.map_none, up_same, uTuple, uList, uSet, atI_zero, atI_one, ixN_20, ixN_zero, List.set_cons_zero, uPow, h1, decide_true, mTy, Mth.T, Mth.fn, uL, hg3]
      refine ⟨trivial, by decide, by decide, ?_⟩
      simp only [inH_xc, inH_fn, inH_gl, trJ, uFmt, uXf, uXi, gam_hf, gam_xc, tab_kin, trSs, trS, trE, trT, trX, pl, trA, trO, trC, trI, uBin_s, uUn_s, uVar_s, uC_s, getS, setS, uOp, uAdd, uSub, uMul, uDiv, uMod, uPow, uNeg, uCmp, uEqF, uLt, uLe, uGt, uGe, uIsF, isNonU, uTru, Blt.fn, uLen, uAbs, uMax2, uMin2, uInt, uIx, startU, gam_fn, gam_gl, tab_xcs, tab_sub, UD_nx, UD_rt, UD_bk, UD_ct, UD_ex, spAt, glAt, gls, seqOf, List.map_cons, List.map_nil, List.cons_append, List.nil_append, List.length_cons, List.length_nil, List.replicate, Nat.reduceAdd, Nat.reduceSub, Nat.zero_add, reduceIte, Bool.false_eq_true, Bool.true_eq_false, Bool.false_bne, Bool.true_bne, Bool.not_true, Bool.not_false, Bool.not_not, List.reverse_cons, List.reverse_nil, Option.map_some, Option.map_none, up_same, uTuple, uList, uSet, atI_zero, atI_one, ixN_20, ixN_zero, List.set_cons_zero, uPow, List.getElem?_cons_zero, List.eraseIdx_cons_zero]
      exact pops _
    · simp only [inH_xc, inH_fn, inH_gl, trJ, uFmt, uXf, uXi, gam_hf, gam_xc, tab_kin, trSs, trS, trE, trT, trX, pl, trA, trO, trC, trI, uBin_s, uUn_s, uVar_s, uC_s, getS, setS, uOp, uAdd, uSub, uMul, uDiv, uMod, uPow, uNeg, uCmp, uEqF, uLt, uLe, uGt, uGe, uIsF, isNonU, uTru, Blt.fn, uLen, uAbs, uMax2, uMin2, uInt, uIx, startU, gam_fn, gam_gl, tab_xcs, tab_sub, UD_nx, UD_rt, UD_bk, UD_ct, UD_ex, spAt, glAt, gls, seqOf, List.map_cons, List.map_nil, List.cons_append, List.nil_append, List.length_cons, List.length_nil, List.replicate, Nat.reduceAdd, Nat.reduceSub, Nat.zero_add, reduceIte, Bool.false_eq_true, Bool.true_eq_false, Bool.false_bne, Bool.true_bne, Bool.not_true, Bool.not_false, Bool.not_not, List.reverse_cons, List.reverse_nil, Option.map_some, Option.map_none, up_same, uTuple, uList, uSet, atI_zero, atI_one, ixN_20, ixN_zero, List.set_cons_zero, uPow, h1, decide_false, hg3]
      by_cases h2 : c / many = 0
      · simp only [inH_xc, inH_fn, inH_gl, trJ, uFmt, uXf, uXi, gam_hf, gam_xc, tab_kin, trSs, trS, trE, trT, trX, pl, trA, trO, trC, trI, uBin_s, uUn_s, uVar_s, uC_s, getS, setS, uOp, uAdd, uSub, uMul, uDiv, uMod, uPow, uNeg, uCmp, uEqF, uLt, uLe, uGt, uGe, uIsF, isNonU, uTru, Blt.fn, uLen, uAbs, uMax2, uMin2, uInt, uIx, startU, gam_fn, gam_gl, tab_xcs, tab_sub, UD_nx, UD_rt, UD_bk, UD_ct, UD_ex, spAt, glAt, gls, seqOf, List.map_cons, List.map_nil, List.cons_append, List.nil_append, List.length_cons, List.length_nil, List.replicate, Nat.reduceAdd, Nat.reduceSub, Nat.zero_add, reduceIte, Bool.false_eq_true, Bool.true_eq_false, Bool.false_bne, Bool.true_bne, Bool.not_true, Bool.not_false, Bool.not_not, List.reverse_cons, List.reverse_nil, Option.map_some, Option.map_none, up_same, uTuple, uList, uSet, atI_zero, atI_one, ixN_20, ixN_zero, List.set_cons_zero, uPow, h2, decide_true, mTy, Mth.T, Mth.fn, uL]
        rw [h2] at hg3
        simp only [inH_xc, inH_fn, inH_gl, trJ, uFmt, uXf, uXi, gam_hf, gam_xc, tab_kin, trSs, trS, trE, trT, trX, pl, trA, trO, trC, trI, uBin_s, uUn_s, uVar_s, uC_s, getS, setS, uOp, uAdd, uSub, uMul, uDiv, uMod, uPow, uNeg, uCmp, uEqF, uLt, uLe, uGt, uGe, uIsF, isNonU, uTru, Blt.fn, uLen, uAbs, uMax2, uMin2, uInt, uIx, startU, gam_fn, gam_gl, tab_xcs, tab_sub, UD_nx, UD_rt, UD_bk, UD_ct, UD_ex, spAt, glAt, gls, seqOf, List.map_cons, List.map_nil, List.cons_append, List.nil_append, List.length_cons, List.length_nil, List.replicate, Nat.reduceAdd, Nat.reduceSub, Nat.zero_add, reduceIte, Bool.false_eq_true, Bool.true_eq_false, Bool.false_bne, Bool.true_bne, Bool.not_true, Bool.not_false, Bool.not_not, List.reverse_cons, List.reverse_nil, Option.map_some, Option.map_none, up_same, uTuple, uList, uSet, atI_zero, atI_one, ixN_20, ixN_zero, List.set_cons_zero, uPow, hg3]
        refine ⟨trivial, by decide, by decide, ?_⟩
        simp only [inH_xc, inH_fn, inH_gl, trJ, uFmt, uXf, uXi, gam_hf, gam_xc, tab_kin, trSs, trS, trE, trT, trX, pl, trA, trO, trC, trI, uBin_s, uUn_s, uVar_s, uC_s, getS, setS, uOp, uAdd, uSub, uMul, uDiv, uMod, uPow, uNeg, uCmp, uEqF, uLt, uLe, uGt, uGe, uIsF, isNonU, uTru, Blt.fn, uLen, uAbs, uMax2, uMin2, uInt, uIx, startU, gam_fn, gam_gl, tab_xcs, tab_sub, UD_nx, UD_rt, UD_bk, UD_ct, UD_ex, spAt, glAt, gls, seqOf, List.map_cons, List.map_nil, List.cons_append, List.nil_append, List.length_cons, List.length_nil, List.replicate, Nat.reduceAdd, Nat.reduceSub, Nat.zero_add, reduceIte, Bool.false_eq_true, Bool.true_eq_false, Bool.false_bne, Bool.true_bne, Bool.not_true, Bool.not_false, Bool.not_not, List.reverse_cons, List.reverse_nil, Option.map_some, Option.map_none, up_same, uTuple, uList, uSet, atI_zero, atI_one, ixN_20, ixN_zero, List.set_cons_zero, uPow, List.getElem?_cons_zero, List.eraseIdx_cons_zero]
        exact pops _
      · simp only [inH_xc, inH_fn, inH_gl, trJ, uFmt, uXf, uXi, gam_hf, gam_xc, tab_kin, trSs, trS, trE, trT, trX, pl, trA, trO, trC, trI, uBin_s, uUn_s, uVar_s, uC_s, getS, setS, uOp, uAdd, uSub, uMul, uDiv, uMod, uPow, uNeg, uCmp, uEqF, uLt, uLe, uGt, uGe, uIsF, isNonU, uTru, Blt.fn, uLen, uAbs, uMax2, uMin2, uInt, uIx, startU, gam_fn, gam_gl, tab_xcs, tab_sub, UD_nx, UD_rt, UD_bk, UD_ct, UD_ex, spAt, glAt, gls, seqOf, List.map_cons, List.map_nil, List.cons_append, List.nil_append, List.length_cons, List.length_nil, List.replicate, Nat.reduceAdd, Nat.reduceSub, Nat.zero_add, reduceIte, Bool.false_eq_true, Bool.true_eq_false, Bool.false_bne, Bool.true_bne, Bool.not_true, Bool.not_false, Bool.not_not, List.reverse_cons, List.reverse_nil, Option.map_some, Option.map_none, up_same, uTuple, uList, uSet, atI_zero, atI_one, ixN_20, ixN_zero, List.set_cons_zero, uPow, h2, decide_false]
        exact keep _
abbrev Rows (G : UH) (p g r : Addr) (rows : List U) : Prop := G r = some (.lst rows) ∧ p ≠ r ∧ g ≠ r
def sp__law_pick : USp := fun us G Q _ => ∃ p g r rows, us = [.ref p, .ref r] ∧ Dk G p g ∧ Rows G p g r rows ∧ rows ≠ [] ∧ rows.length < 1000 ∧ ∀ (i : Nat) u G', rows[i]? = some u → Dk G' p g → Fr p g G G' → Q u G'
def cl__law_pick : List (Str × USp) := [("_law_take", sp__law_take)]
theorem w__law_pick (us : List U) (G : UH) (Q : UK) (E : UXn → UH → Prop) (h : sp__law_pick us G Q E) : trSs (TB cl__law_pick) (GM cl__law_pick) b__law_pick (UD Q E) (startU n__law_pick us) G := by
  obtain ⟨p, g, r, rows, rfl, hD, ⟨hr, n1, n2⟩, hne, hl, q⟩ := h
  have : rows.length ≠ 0 := fun z => hne (List.length_eq_zero_iff.mp z)
  simp only [inH_xc, inH_fn, inH_gl, trJ, uFmt, uXf, uXi, gam_hf, gam_xc, tab_kin, trSs, trS, trE, trT, trX, pl, trA, trO, trC, trI, uBin_s, uUn_s, uVar_s, uC_s, getS, setS, uOp, uAdd, uSub, uMul, uDiv, uMod, uPow, uNeg, uCmp, uEqF, uLt, uLe, uGt, uGe, uIsF, isNonU, uTru, Blt.fn, uAbs, uMax2, uMin2, uInt, startU, gam_fn, gam_gl, tab_xcs, tab_sub, UD_nx, UD_rt, UD_bk, UD_ct, UD_ex, spAt, glAt, gls, List.map_cons, List.map_nil, List.cons_append, List.nil_append, List.length_cons, List.length_nil, List.replicate, Nat.reduceAdd, Nat.reduceSub, Nat.zero_add, reduceIte, Bool.false_eq_true, Bool.true_eq_false, Bool.false_bne, Bool.true_bne, Bool.not_true, Bool.not_false, Bool.not_not, List.reverse_cons, List.reverse_nil, Option.map_some, Option.map_none, up_same, uSet, atI_zero, atI_one, ixN_20, ixN_zero, List.set_cons_zero, uPow, b__law_pick, n__law_pick, cl__law_pick]
  refine len_sq (.inr ⟨_, rfl, hr⟩) ?_
  refine ⟨p, g, _, rfl, hD, by omega, by omega, fun k G1 k0 k1 hD1 f1 => ?_⟩
  simp only [inH_xc, inH_fn, inH_gl, trJ, uFmt, uXf, uXi, gam_hf, gam_xc, tab_kin, trSs, trS, trE, trT, trX, pl, trA, trO, trC, trI, uBin_s, uUn_s, uVar_s, uC_s, getS, setS, uOp, uAdd, uSub, uMul, uDiv, uMod, uPow, uNeg, uCmp, uEqF, uLt, uLe, uGt, uGe, uIsF, isNonU, uTru, Blt.fn, uAbs, uMax2, uMin2, uInt, startU, gam_fn, gam_gl, tab_xcs, tab_sub, UD_nx, UD_rt, UD_bk, UD_ct, UD_ex, spAt, glAt, gls, List.map_cons, List.map_nil, List.cons_append, List.nil_append, List.length_cons, List.length_nil, List.replicate, Nat.reduceAdd, Nat.reduceSub, Nat.zero_add, reduceIte, Bool.false_eq_true, Bool.true_eq_false, Bool.false_bne, Bool.true_bne, Bool.not_true, Bool.not_false, Bool.not_not, List.reverse_cons, List.reverse_nil, Option.map_some, Option.map_none, up_same, uSet, atI_zero, atI_one, ixN_20, ixN_zero, List.set_cons_zero, uPow]
  obtain ⟨i, rfl⟩ := Int.eq_ofNat_of_zero_le k0
  obtain ⟨u, hu⟩ : ∃ u, rows[i]? = some u := ⟨rows[i], by rw [List.getElem?_eq_getElem]⟩
  refine ix_sq (.inr ⟨_, rfl, f1 _ _ n1.symm n2.symm hr⟩) (atI_nat (by omega) (by simpa using hu)) ?_
  exact fin.of (q i u G1 hu hD1 f1)
/-! ### _law_same -/
def leafU : U → Bool
  | .int _ => true
  | .str _ => true
  | _ => false
def sp__law_same0 : USp := fun us G Q _ => ∃ u, us = [u, u] ∧ leafU u = true ∧ Q (.bl true) G
def cl__law_same0 : List (Str × USp) := [("_law_same", fun _ _ _ _ => False)]
theorem w__law_same0 (hot : Bool) (us : List U) (G : UH) (Q : UK) (E : UXn → UH → Prop) (h : sp__law_same0 us G Q E) : trSs (TH cl__law_same0 hot) (GM cl__law_same0) b__law_same (UD Q E) (startU n__law_same us) G := by
  obtain ⟨u, rfl, hu, q⟩ := h
  cases u with
  | int i =>
    simp only [inH_xc, inH_fn, inH_gl, trJ, uFmt, uXf, uXi, gam_hf, gam_xc, tab_kin, trSs, trS, trE, trT, trX, pl, trA, trO, trC, trI, uBin_s, uUn_s, uVar_s, uC_s, getS, setS, uOp, uAdd, uSub, uMul, uDiv, uMod, uPow, uNeg, uCmp, uEqF, uLt, uLe, uGt, uGe, uIsF, isNonU, uTru, Blt.fn, uAbs, uMax2, uMin2, uInt, startU, gam_fn, gam_gl, tab_xcs, tab_sub, UD_nx, UD_rt, UD_bk, UD_ct, UD_ex, spAt, glAt, gls, List.map_cons, List.map_nil, List.cons_append, List.nil_append, List.length_cons, List.length_nil, List.replicate, Nat.reduceAdd, Nat.reduceSub, Nat.zero_add, reduceIte, Bool.false_eq_true, Bool.true_eq_false, Bool.false_bne, Bool.true_bne, Bool.not_true, Bool.not_false, Bool.not_not, List.reverse_cons, List.reverse_nil, Option.map_some, Option.map_none, up_same, uSet, atI_zero, atI_one, ixN_20, ixN_zero, List.set_cons_zero, uPow, b__law_same, n__law_same]
    refine isi_tuple rfl ?_
    simp only [inH_xc, inH_fn, inH_gl, trJ, uFmt, uXf, uXi, gam_hf, gam_xc, tab_kin, trSs, trS, trE, trT, trX, pl, trA, trO, trC, trI, uBin_s, uUn_s, uVar_s, uC_s, getS, setS, uOp, uAdd, uSub, uMul, uDiv, uMod, uPow, uNeg, uCmp, uEqF, uLt, uLe, uGt, uGe, uIsF, isNonU, uTru, Blt.fn, uAbs, uMax2, uMin2, uInt, startU, gam_fn, gam_gl, tab_xcs, tab_sub, UD_nx, UD_rt, UD_bk, UD_ct, UD_ex, spAt, glAt, gls, List.map_cons, List.map_nil, List.cons_append, List.nil_append, List.length_cons, List.length_nil, List.replicate, Nat.reduceAdd, Nat.reduceSub, Nat.zero_add, reduceIte, Bool.false_eq_true, Bool.true_eq_false, Bool.false_bne, Bool.true_bne, Bool.not_true, Bool.not_false, Bool.not_not, List.reverse_cons, List.reverse_nil, Option.map_some, Option.map_none, up_same, uSet, atI_zero, atI_one, ixN_20, ixN_zero, List.set_cons_zero, uPow, kT, t4__law_same]
    refine isi_str rfl ?_
    simp only [inH_xc, inH_fn, inH_gl, trJ, uFmt, uXf, uXi, gam_hf, gam_xc, tab_kin, trSs, trS, trE, trT, trX, pl, trA, trO, trC, trI, uBin_s, uUn_s, uVar_s, uC_s, getS, setS, uOp, uAdd, uSub, uMul, uDiv, uMod, uPow, uNeg, uCmp, uEqF, uLt, uLe, uGt, uGe, uIsF, isNonU, uTru, Blt.fn, uAbs, uMax2, uMin2, uInt, startU, gam_fn, gam_gl, tab_xcs, tab_sub, UD_nx, UD_rt, UD_bk, UD_ct, UD_ex, spAt, glAt, gls, List.map_cons, List.map_nil, List.cons_append, List.nil_append, List.length_cons, List.length_nil, List.replicate, Nat.reduceAdd, Nat.reduceSub, Nat.zero_add, reduceIte, Bool.false_eq_true, Bool.true_eq_false, Bool.false_bne, Bool.true_bne, Bool.not_true, Bool.not_false, Bool.not_not, List.reverse_cons, List.reverse_nil, Option.map_some, Option.map_none, up_same, uSet, atI_zero, atI_one, ixN_20, ixN_zero, List.set_cons_zero, uPow, kS, t3__law_same]
    refine isi_int rfl ?_
    simp only [inH_xc, inH_fn, inH_gl, trJ, uFmt, uXf, uXi, gam_hf, gam_xc, tab_kin, trSs, trS, trE, trT, trX, pl, trA, trO, trC, trI, uBin_s, uUn_s, uVar_s, uC_s, getS, setS, uOp, uAdd, uSub, uMul, uDiv, uMod, uPow, uNeg, uCmp, uEqF, uLt, uLe, uGt, uGe, uIsF, isNonU, uTru, Blt.fn, uAbs, uMax2, uMin2, uInt, startU, gam_fn, gam_gl, tab_xcs, tab_sub, UD_nx, UD_rt, UD_bk, UD_ct, UD_ex, spAt, glAt, gls, List.map_cons, List.map_nil, List.cons_append, List.nil_append, List.length_cons, List.length_nil, List.replicate, Nat.reduceAdd, Nat.reduceSub, Nat.zero_add, reduceIte, Bool.false_eq_true, Bool.true_eq_false, Bool.false_bne, Bool.true_bne, Bool.not_true, Bool.not_false, Bool.not_not, List.reverse_cons, List.reverse_nil, Option.map_some, Option.map_none, up_same, uSet, atI_zero, atI_one, ixN_20, ixN_zero, List.set_cons_zero, uPow, kI]
    refine isi_bool rfl ?_
    simp only [inH_xc, inH_fn, inH_gl, trJ, uFmt, uXf, uXi, gam_hf, gam_xc, tab_kin, trSs, trS, trE, trT, trX, pl, trA, trO, trC, trI, uBin_s, uUn_s, uVar_s, uC_s, getS, setS, uOp, uAdd, uSub, uMul, uDiv, uMod, uPow, uNeg, uCmp, uEqF, uLt, uLe, uGt, uGe, uIsF, isNonU, uTru, Blt.fn, uAbs, uMax2, uMin2, uInt, startU, gam_fn, gam_gl, tab_xcs, tab_sub, UD_nx, UD_rt, UD_bk, UD_ct, UD_ex, spAt, glAt, gls, List.map_cons, List.map_nil, List.cons_append, List.nil_append, List.length_cons, List.length_nil, List.replicate, Nat.reduceAdd, Nat.reduceSub, Nat.zero_add, reduceIte, Bool.false_eq_true, Bool.true_eq_false, Bool.false_bne, Bool.true_bne, Bool.not_true, Bool.not_false, Bool.not_not, List.reverse_cons, List.reverse_nil, Option.map_some, Option.map_none, up_same, uSet, atI_zero, atI_one, ixN_20, ixN_zero, List.set_cons_zero, uPow, kB, decide_true]
    exact fin.of q
  | str i =>
    simp only [inH_xc, inH_fn, inH_gl, trJ, uFmt, uXf, uXi, gam_hf, gam_xc, tab_kin, trSs, trS, trE, trT, trX, pl, trA, trO, trC, trI, uBin_s, uUn_s, uVar_s, uC_s, getS, setS, uOp, uAdd, uSub, uMul, uDiv, uMod, uPow, uNeg, uCmp, uEqF, uLt, uLe, uGt, uGe, uIsF, isNonU, uTru, Blt.fn, uAbs, uMax2, uMin2, uInt, startU, gam_fn, gam_gl, tab_xcs, tab_sub, UD_nx, UD_rt, UD_bk, UD_ct, UD_ex, spAt, glAt, gls, List.map_cons, List.map_nil, List.cons_append, List.nil_append, List.length_cons, List.length_nil, List.replicate, Nat.reduceAdd, Nat.reduceSub, Nat.zero_add, reduceIte, Bool.false_eq_true, Bool.true_eq_false, Bool.false_bne, Bool.true_bne, Bool.not_true, Bool.not_false, Bool.not_not, List.reverse_cons, List.reverse_nil, Option.map_some, Option.map_none, up_same, uSet, atI_zero, atI_one, ixN_20, ixN_zero, List.set_cons_zero, uPow, b__law_same, n__law_same]
    refine isi_tuple rfl ?_
    simp only [inH_xc, inH_fn, inH_gl, trJ, uFmt, uXf, uXi, gam_hf, gam_xc, tab_kin, trSs, trS, trE, trT, trX, pl, trA, trO, trC, trI, uBin_s, uUn_s, uVar_s, uC_s, getS, setS, uOp, uAdd, uSub, uMul, uDiv, uMod, uPow, uNeg, uCmp, uEqF, uLt, uLe, uGt, uGe, uIsF, isNonU, uTru, Blt.fn, uAbs, uMax2, uMin2, uInt, startU, gam_fn, gam_gl, tab_xcs, tab_sub, UD_nx, UD_rt, UD_bk, UD_ct, UD_ex, spAt, glAt, gls, List.map_cons, List.map_nil, List.cons_append, List.nil_append, List.length_cons, List.length_nil, List.replicate, Nat.reduceAdd, Nat.reduceSub, Nat.zero_add, reduceIte, Bool.false_eq_true, Bool.true_eq_false, Bool.false_bne, Bool.true_bne, Bool.not_true, Bool.not_false, Bool.not_not, List.reverse_cons, List.reverse_nil, Option.map_some, Option.map_none, up_same, uSet, atI_zero, atI_one, ixN_20, ixN_zero, List.set_cons_zero, uPow, kT, t4__law_same]
    refine isi_str rfl ?_
    simp only [inH_xc, inH_fn, inH_gl, trJ, uFmt, uXf, uXi, gam_hf, gam_xc, tab_kin, trSs, trS, trE, trT, trX, pl, trA, trO, trC, trI, uBin_s, uUn_s, uVar_s, uC_s, getS, setS, uOp, uAdd, uSub, uMul, uDiv, uMod, uPow, uNeg, uCmp, uEqF, uLt, uLe, uGt, uGe, uIsF, isNonU, uTru, Blt.fn, uAbs, uMax2, uMin2, uInt, startU, gam_fn, gam_gl, tab_xcs, tab_sub, UD_nx, UD_rt, UD_bk, UD_ct, UD_ex, spAt, glAt, gls, List.map_cons, List.map_nil, List.cons_append, List.nil_append, List.length_cons, List.length_nil, List.replicate, Nat.reduceAdd, Nat.reduceSub, Nat.zero_add, reduceIte, Bool.false_eq_true, Bool.true_eq_false, Bool.false_bne, Bool.true_bne, Bool.not_true, Bool.not_false, Bool.not_not, List.reverse_cons, List.reverse_nil, Option.map_some, Option.map_none, up_same, uSet, atI_zero, atI_one, ixN_20, ixN_zero, List.set_cons_zero, uPow, kS]
    refine isi_str rfl ?_
    simp only [inH_xc, inH_fn, inH_gl, trJ, uFmt, uXf, uXi, gam_hf, gam_xc, tab_kin, trSs, trS, trE, trT, trX, pl, trA, trO, trC, trI, uBin_s, uUn_s, uVar_s, uC_s, getS, setS, uOp, uAdd, uSub, uMul, uDiv, uMod, uPow, uNeg, uCmp, uEqF, uLt, uLe, uGt, uGe, uIsF, isNonU, uTru, Blt.fn, uAbs, uMax2, uMin2, uInt, startU, gam_fn, gam_gl, tab_xcs, tab_sub, UD_nx, UD_rt, UD_bk, UD_ct, UD_ex, spAt, glAt, gls, List.map_cons, List.map_nil, List.cons_append, List.nil_append, List.length_cons, List.length_nil, List.replicate, Nat.reduceAdd, Nat.reduceSub, Nat.zero_add, reduceIte, Bool.false_eq_true, Bool.true_eq_false, Bool.false_bne, Bool.true_bne, Bool.not_true, Bool.not_false, Bool.not_not, List.reverse_cons, List.reverse_nil, Option.map_some, Option.map_none, up_same, uSet, atI_zero, atI_one, ixN_20, ixN_zero, List.set_cons_zero, uPow, kS, decide_true]
    exact fin.of q
  | _ => cases hu
def sp__law_same : USp := fun us G Q _ => ∃ u, us = [u, u] ∧ (leafU u = true ∨ ∃ ws, u = .tup ws ∧ ws.all leafU = true ∧ ws.length ≤ 100000) ∧ Q (.bl true) G
def cl__law_same : List (Str × USp) := [("_law_same", sp__law_same0)]
theorem l__law_same {hot : Bool} {ws : List U} (hw : ws.all leafU = true) (D : UE) (qn : ∀ o G, D.nx [some (.tup ws), some (.tup ws), o] G → True) : ∀ (j k : Nat) (o : Option U) (G : UH), k + j = ws.length → (∀ o, D.nx [some (.tup ws), some (.tup ws), o] G) →
    forU [] (trG (.nm 2)) (trSs (TH cl__law_same hot) (GM cl__law_same) l1__law_same) D (rangeU (k : Int) 1 j) [some (.tup ws), some (.tup ws), o] G
  | 0, k, o, G, _, q => ⟨trivial, q _⟩
  | j + 1, k, o, G, e, q => by
    have next := fun o => l__law_same (hot := hot) hw D qn j (k + 1) o G (by omega) q
    rw [show ((k + 1 : Nat) : Int) = (k : Int) + 1 by omega] at next
    refine ⟨trivial, ?_⟩
    show _
    generalize forU _ _ _ D (rangeU ((k : Int) + 1) 1 j) = T at next ⊢
    obtain ⟨u, hu⟩ : ∃ u, ws[k]? = some u := ⟨ws[k], by rw [List.getElem?_eq_getElem]⟩
    have at0 : atI ws (k : Int) = some u := atI_nat (by omega) (by simpa using hu)
    simp only [inH_xc, inH_fn, inH_gl, trJ, uFmt, uXf, uXi, gam_hf, gam_xc, tab_kin, trSs, trS, trE, trT, trX, pl, trA, trO, trC, trI, uBin_s, uUn_s, uVar_s, uC_s, getS, setS, uOp, uAdd, uSub, uMul, uDiv, uMod, uPow, uNeg, uCmp, uEqF, uLt, uLe, uGt, uGe, uIsF, isNonU, uTru, Blt.fn, uAbs, uMax2, uMin2, uInt, startU, gam_fn, gam_gl, tab_xcs, tab_sub, UD_nx, UD_rt, UD_bk, UD_ct, UD_ex, spAt, glAt, gls, List.map_cons, List.map_nil, List.cons_append, List.nil_append, List.length_cons, List.length_nil, List.replicate, Nat.reduceAdd, Nat.reduceSub, Nat.zero_add, reduceIte, Bool.false_eq_true, Bool.true_eq_false, Bool.false_bne, Bool.true_bne, Bool.not_true, Bool.not_false, Bool.not_not, List.reverse_cons, List.reverse_nil, Option.map_some, Option.map_none, up_same, uSet, atI_zero, atI_one, ixN_20, ixN_zero, List.set_cons_zero, uPow, trG, l1__law_same, cl__law_same]
    refine ix_sq (.inl rfl) at0 ?_
    refine ix_sq (.inl rfl) at0 ?_
    refine ⟨u, rfl, List.all_eq_true.mp hw u (List.mem_of_getElem? hu), ?_⟩
    simp only [inH_xc, inH_fn, inH_gl, trJ, uFmt, uXf, uXi, gam_hf, gam_xc, tab_kin, trSs, trS, trE, trT, trX, pl, trA, trO, trC, trI, uBin_s, uUn_s, uVar_s, uC_s, getS, setS, uOp, uAdd, uSub, uMul, uDiv, uMod, uPow, uNeg, uCmp, uEqF, uLt, uLe, uGt, uGe, uIsF, isNonU, uTru, Blt.fn, uAbs, uMax2, uMin2, uInt, startU, gam_fn, gam_gl, tab_xcs, tab_sub, UD_nx, UD_rt, UD_bk, UD_ct, UD_ex, spAt, glAt, gls, List.map_cons, List.map_nil, List.cons_append, List.nil_append, List.length_cons, List.length_nil, List.replicate, Nat.reduceAdd, Nat.reduceSub, Nat.zero_add, reduceIte, Bool.false_eq_true, Bool.true_eq_false, Bool.false_bne, Bool.true_bne, Bool.not_true, Bool.not_false, Bool.not_not, List.reverse_cons, List.reverse_nil, Option.map_some, Option.map_none, up_same, uSet, atI_zero, atI_one, ixN_20, ixN_zero, List.set_cons_zero, uPow]
    exact ⟨G, .refl _, next _⟩
theorem w__law_same (hot : Bool) (us : List U) (G : UH) (Q : UK) (E : UXn → UH → Prop) (h : sp__law_same us G Q E) : trSs (TH cl__law_same hot) (GM cl__law_same) b__law_same (UD Q E) (startU n__law_same us) G := by
  obtain ⟨u, rfl, hu, q⟩ := h
  cases u with
  | int i =>
    simp only [inH_xc, inH_fn, inH_gl, trJ, uFmt, uXf, uXi, gam_hf, gam_xc, tab_kin, trSs, trS, trE, trT, trX, pl, trA, trO, trC, trI, uBin_s, uUn_s, uVar_s, uC_s, getS, setS, uOp, uAdd, uSub, uMul, uDiv, uMod, uPow, uNeg, uCmp, uEqF, uLt, uLe, uGt, uGe, uIsF, isNonU, uTru, Blt.fn, uAbs, uMax2, uMin2, uInt, startU, gam_fn, gam_gl, tab_xcs, tab_sub, UD_nx, UD_rt, UD_bk, UD_ct, UD_ex, spAt, glAt, gls, List.map_cons, List.map_nil, List.cons_append, List.nil_append, List.length_cons, List.length_nil, List.replicate, Nat.reduceAdd, Nat.reduceSub, Nat.zero_add, reduceIte, Bool.false_eq_true, Bool.true_eq_false, Bool.false_bne, Bool.true_bne, Bool.not_true, Bool.not_false, Bool.not_not, List.reverse_cons, List.reverse_nil, Option.map_some, Option.map_none, up_same, uSet, atI_zero, atI_one, ixN_20, ixN_zero, List.set_cons_zero, uPow, b__law_same, n__law_same]
    refine isi_tuple rfl ?_
    simp only [inH_xc, inH_fn, inH_gl, trJ, uFmt, uXf, uXi, gam_hf, gam_xc, tab_kin, trSs, trS, trE, trT, trX, pl, trA, trO, trC, trI, uBin_s, uUn_s, uVar_s, uC_s, getS, setS, uOp, uAdd, uSub, uMul, uDiv, uMod, uPow, uNeg, uCmp, uEqF, uLt, uLe, uGt, uGe, uIsF, isNonU, uTru, Blt.fn, uAbs, uMax2, uMin2, uInt, startU, gam_fn, gam_gl, tab_xcs, tab_sub, UD_nx, UD_rt, UD_bk, UD_ct, UD_ex, spAt, glAt, gls, List.map_cons, List.map_nil, List.cons_append, List.nil_append, List.length_cons, List.length_nil, List.replicate, Nat.reduceAdd, Nat.reduceSub, Nat.zero_add, reduceIte, Bool.false_eq_true, Bool.true_eq_false, Bool.false_bne, Bool.true_bne, Bool.not_true, Bool.not_false, Bool.not_not, List.reverse_cons, List.reverse_nil, Option.map_some, Option.map_none, up_same, uSet, atI_zero, atI_one, ixN_20, ixN_zero, List.set_cons_zero, uPow, kT, t4__law_same]
    refine isi_str rfl ?_
    simp only [inH_xc, inH_fn, inH_gl, trJ, uFmt, uXf, uXi, gam_hf, gam_xc, tab_kin, trSs, trS, trE, trT, trX, pl, trA, trO, trC, trI, uBin_s, uUn_s, uVar_s, uC_s, getS, setS, uOp, uAdd, uSub, uMul, uDiv, uMod, uPow, uNeg, uCmp, uEqF, uLt, uLe, uGt, uGe, uIsF, isNonU, uTru, Blt.fn, uAbs, uMax2, uMin2, uInt, startU, gam_fn, gam_gl, tab_xcs, tab_sub, UD_nx, UD_rt, UD_bk, UD_ct, UD_ex, spAt, glAt, gls, List.map_cons, List.map_nil, List.cons_append, List.nil_append, List.length_cons, List.length_nil, List.replicate, Nat.reduceAdd, Nat.reduceSub, Nat.zero_add, reduceIte, Bool.false_eq_true, Bool.true_eq_false, Bool.false_bne, Bool.true_bne, Bool.not_true, Bool.not_false, Bool.not_not, List.reverse_cons, List.reverse_nil, Option.map_some, Option.map_none, up_same, uSet, atI_zero, atI_one, ixN_20, ixN_zero, List.set_cons_zero, uPow, kS, t3__law_same]
    refine isi_int rfl ?_
    simp only [inH_xc, inH_fn, inH_gl, trJ, uFmt, uXf, uXi, gam_hf, gam_xc, tab_kin, trSs, trS, trE, trT, trX, pl, trA, trO, trC, trI, uBin_s, uUn_s, uVar_s, uC_s, getS, setS, uOp, uAdd, uSub, uMul, uDiv, uMod, uPow, uNeg, uCmp, uEqF, uLt, uLe, uGt, uGe, uIsF, isNonU, uTru, Blt.fn, uAbs, uMax2, uMin2, uInt, startU, gam_fn, gam_gl, tab_xcs, tab_sub, UD_nx, UD_rt, UD_bk, UD_ct, UD_ex, spAt, glAt, gls, List.map_cons, List.map_nil, List.cons_append, List.nil_append, List.length_cons, List.length_nil, List.replicate, Nat.reduceAdd, Nat.reduceSub, Nat.zero_add, reduceIte, Bool.false_eq_true, Bool.true_eq_false, Bool.false_bne, Bool.true_bne, Bool.not_true, Bool.not_false, Bool.not_not, List.reverse_cons, List.reverse_nil, Option.map_some, Option.map_none, up_same, uSet, atI_zero, atI_one, ixN_20, ixN_zero, List.set_cons_zero, uPow, kI]
    refine isi_bool rfl ?_
    simp only [inH_xc, inH_fn, inH_gl, trJ, uFmt, uXf, uXi, gam_hf, gam_xc, tab_kin, trSs, trS, trE, trT, trX, pl, trA, trO, trC, trI, uBin_s, uUn_s, uVar_s, uC_s, getS, setS, uOp, uAdd, uSub, uMul, uDiv, uMod, uPow, uNeg, uCmp, uEqF, uLt, uLe, uGt, uGe, uIsF, isNonU, uTru, Blt.fn, uAbs, uMax2, uMin2, uInt, startU, gam_fn, gam_gl, tab_xcs, tab_sub, UD_nx, UD_rt, UD_bk, UD_ct, UD_ex, spAt, glAt, gls, List.map_cons, List.map_nil, List.cons_append, List.nil_append, List.length_cons, List.length_nil, List.replicate, Nat.reduceAdd, Nat.reduceSub, Nat.zero_add, reduceIte, Bool.false_eq_true, Bool.true_eq_false, Bool.false_bne, Bool.true_bne, Bool.not_true, Bool.not_false, Bool.not_not, List.reverse_cons, List.reverse_nil, Option.map_some, Option.map_none, up_same, uSet, atI_zero, atI_one, ixN_20, ixN_zero, List.set_cons_zero, uPow, kB, decide_true]
    exact fin.of q
  | str i =>
    simp only [inH_xc, inH_fn, inH_gl, trJ, uFmt, uXf, uXi, gam_hf, gam_xc, tab_kin, trSs, trS, trE, trT, trX, pl, trA, trO, trC, trI, uBin_s, uUn_s, uVar_s, uC_s, getS, setS, uOp, uAdd, uSub, uMul, uDiv, uMod, uPow, uNeg, uCmp, uEqF, uLt, uLe, uGt, uGe, uIsF, isNonU, uTru, Blt.fn, uAbs, uMax2, uMin2, uInt, startU, gam_fn, gam_gl, tab_xcs, tab_sub, UD_nx, UD_rt, UD_bk, UD_ct, UD_ex, spAt, glAt, gls, List.map_cons, List.map_nil, List.cons_append, List.nil_append, List.length_cons, List.length_nil, List.replicate, Nat.reduceAdd, Nat.reduceSub, Nat.zero_add, reduceIte, Bool.false_eq_true, Bool.true_eq_false, Bool.false_bne, Bool.true_bne, Bool.not_true, Bool.not_false, Bool.not_not, List.reverse_cons, List.reverse_nil, Option.map_some, Option.map_none, up_same, uSet, atI_zero, atI_one, ixN_20, ixN_zero, List.set_cons_zero, uPow, b__law_same, n__law_same]
    refine isi_tuple rfl ?_
    simp only [inH_xc, inH_fn, inH_gl, trJ, uFmt, uXf, uXi, gam_hf, gam_xc, tab_kin, trSs, trS, trE, trT, trX, pl, trA, trO, trC, trI, uBin_s, uUn_s, uVar_s, uC_s, getS, setS, uOp, uAdd, uSub, uMul, uDiv, uMod, uPow, uNeg, uCmp, uEqF, uLt, uLe, uGt, uGe, uIsF, isNonU, uTru, Blt.fn, uAbs, uMax2, uMin2, uInt, startU, gam_fn, gam_gl, tab_xcs, tab_sub, UD_nx, UD_rt, UD_bk, UD_ct, UD_ex, spAt, glAt, gls, List.map_cons, List.map_nil, List.cons_append, List.nil_append, List.length_cons, List.length_nil, List.replicate, Nat.reduceAdd, Nat.reduceSub, Nat.zero_add, reduceIte, Bool.false_eq_true, Bool.true_eq_false, Bool.false_bne, Bool.true_bne, Bool.not_true, Bool.not_false, Bool.not_not, List.reverse_cons, List.reverse_nil, Option.map_some, Option.map_none, up_same, uSet, atI_zero, atI_one, ixN_20, ixN_zero, List.set_cons_zero, uPow, kT, t4__law_same]
    refine isi_str rfl ?_
    simp only [inH_xc, inH_fn, inH_gl, trJ, uFmt, uXf, uXi, gam_hf, gam_xc, tab_kin, trSs, trS, trE, trT, trX, pl, trA, trO, trC, trI, uBin_s, uUn_s, uVar_s, uC_s, getS, setS, uOp, uAdd, uSub, uMul, uDiv, uMod, uPow, uNeg, uCmp, uEqF, uLt, uLe, uGt, uGe, uIsF, isNonU, uTru, Blt.fn, uAbs, uMax2, uMin2, uInt, startU, gam_fn, gam_gl, tab_xcs, tab_sub, UD_nx, UD_rt, UD_bk, UD_ct, UD_ex, spAt, glAt, gls, List.map_cons, List.map_nil, List.cons_append, List.nil_append, List.length_cons, List.length_nil, List.replicate, Nat.reduceAdd, Nat.reduceSub, Nat.zero_add, reduceIte, Bool.false_eq_true, Bool.true_eq_false, Bool.false_bne, Bool.true_bne, Bool.not_true, Bool.not_false, Bool.not_not, List.reverse_cons, List.reverse_nil, Option.map_some, Option.map_none, up_same, uSet, atI_zero, atI_one, ixN_20, ixN_zero, List.set_cons_zero, uPow, kS]
    refine isi_str rfl ?_
    simp only [inH_xc, inH_fn, inH_gl, trJ, uFmt, uXf, uXi, gam_hf, gam_xc, tab_kin, trSs, trS, trE, trT, trX, pl, trA, trO, trC, trI, uBin_s, uUn_s, uVar_s, uC_s, getS, setS, uOp, uAdd, uSub, uMul, uDiv, uMod, uPow, uNeg, uCmp, uEqF, uLt, uLe, uGt, uGe, uIsF, isNonU, uTru, Blt.fn, uAbs, uMax2, uMin2, uInt, startU, gam_fn, gam_gl, tab_xcs, tab_sub, UD_nx, UD_rt, UD_bk, UD_ct, UD_ex, spAt, glAt, gls, List.map_cons, List.map_nil, List.cons_append, List.nil_append, List.length_cons, List.length_nil, List.replicate, Nat.reduceAdd, Nat.reduceSub, Nat.zero_add, reduceIte, Bool.false_eq_true, Bool.true_eq_false, Bool.false_bne, Bool.true_bne, Bool.not_true, Bool.not_false, Bool.not_not, List.reverse_cons, List.reverse_nil, Option.map_some, Option.map_none, up_same, uSet, atI_zero, atI_one, ixN_20, ixN_zero, List.set_cons_zero, uPow, kS, decide_true]
    exact fin.of q
  | tup ws =>
    obtain ⟨hw, hl⟩ : ws.all leafU = true ∧ ws.length ≤ 100000 := by
      rcases hu with hu | ⟨ws', e, h1, h2⟩
      · cases hu
      · cases e; exact ⟨h1, h2⟩
    simp only [inH_xc, inH_fn, inH_gl, trJ, uFmt, uXf, uXi, gam_hf, gam_xc, tab_kin, trSs, trS, trE, trT, trX, pl, trA, trO, trC, trI, uBin_s, uUn_s, uVar_s, uC_s, getS, setS, uOp, uAdd, uSub, uMul, uDiv, uMod, uPow, uNeg, uCmp, uEqF, uLt, uLe, uGt, uGe, uIsF, isNonU, uTru, Blt.fn, uAbs, uMax2, uMin2, uInt, startU, gam_fn, gam_gl, tab_xcs, tab_sub, UD_nx, UD_rt, UD_bk, UD_ct, UD_ex, spAt, glAt, gls, List.map_cons, List.map_nil, List.cons_append, List.nil_append, List.length_cons, List.length_nil, List.replicate, Nat.reduceAdd, Nat.reduceSub, Nat.zero_add, reduceIte, Bool.false_eq_true, Bool.true_eq_false, Bool.false_bne, Bool.true_bne, Bool.not_true, Bool.not_false, Bool.not_not, List.reverse_cons, List.reverse_nil, Option.map_some, Option.map_none, up_same, uSet, atI_zero, atI_one, ixN_20, ixN_zero, List.set_cons_zero, uPow, b__law_same, n__law_same]
    refine isi_tuple rfl ?_
    simp only [inH_xc, inH_fn, inH_gl, trJ, uFmt, uXf, uXi, gam_hf, gam_xc, tab_kin, trSs, trS, trE, trT, trX, pl, trA, trO, trC, trI, uBin_s, uUn_s, uVar_s, uC_s, getS, setS, uOp, uAdd, uSub, uMul, uDiv, uMod, uPow, uNeg, uCmp, uEqF, uLt, uLe, uGt, uGe, uIsF, isNonU, uTru, Blt.fn, uAbs, uMax2, uMin2, uInt, startU, gam_fn, gam_gl, tab_xcs, tab_sub, UD_nx, UD_rt, UD_bk, UD_ct, UD_ex, spAt, glAt, gls, List.map_cons, List.map_nil, List.cons_append, List.nil_append, List.length_cons, List.length_nil, List.replicate, Nat.reduceAdd, Nat.reduceSub, Nat.zero_add, reduceIte, Bool.false_eq_true, Bool.true_eq_false, Bool.false_bne, Bool.true_bne, Bool.not_true, Bool.not_false, Bool.not_not, List.reverse_cons, List.reverse_nil, Option.map_some, Option.map_none, up_same, uSet, atI_zero, atI_one, ixN_20, ixN_zero, List.set_cons_zero, uPow, kT]
    refine isi_tuple rfl ?_
    simp only [inH_xc, inH_fn, inH_gl, trJ, uFmt, uXf, uXi, gam_hf, gam_xc, tab_kin, trSs, trS, trE, trT, trX, pl, trA, trO, trC, trI, uBin_s, uUn_s, uVar_s, uC_s, getS, setS, uOp, uAdd, uSub, uMul, uDiv, uMod, uPow, uNeg, uCmp, uEqF, uLt, uLe, uGt, uGe, uIsF, isNonU, uTru, Blt.fn, uAbs, uMax2, uMin2, uInt, startU, gam_fn, gam_gl, tab_xcs, tab_sub, UD_nx, UD_rt, UD_bk, UD_ct, UD_ex, spAt, glAt, gls, List.map_cons, List.map_nil, List.cons_append, List.nil_append, List.length_cons, List.length_nil, List.replicate, Nat.reduceAdd, Nat.reduceSub, Nat.zero_add, reduceIte, Bool.false_eq_true, Bool.true_eq_false, Bool.false_bne, Bool.true_bne, Bool.not_true, Bool.not_false, Bool.not_not, List.reverse_cons, List.reverse_nil, Option.map_some, Option.map_none, up_same, uSet, atI_zero, atI_one, ixN_20, ixN_zero, List.set_cons_zero, uPow, kT]
    refine len_sq (.inl rfl) ?_
    refine len_sq (.inl rfl) ?_
    simp only [inH_xc, inH_fn, inH_gl, trJ, uFmt, uXf, uXi, gam_hf, gam_xc, tab_kin, trSs, trS, trE, trT, trX, pl, trA, trO, trC, trI, uBin_s, uUn_s, uVar_s, uC_s, getS, setS, uOp, uAdd, uSub, uMul, uDiv, uMod, uPow, uNeg, uCmp, uEqF, uLt, uLe, uGt, uGe, uIsF, isNonU, uTru, Blt.fn, uAbs, uMax2, uMin2, uInt, startU, gam_fn, gam_gl, tab_xcs, tab_sub, UD_nx, UD_rt, UD_bk, UD_ct, UD_ex, spAt, glAt, gls, List.map_cons, List.map_nil, List.cons_append, List.nil_append, List.length_cons, List.length_nil, List.replicate, Nat.reduceAdd, Nat.reduceSub, Nat.zero_add, reduceIte, Bool.false_eq_true, Bool.true_eq_false, Bool.false_bne, Bool.true_bne, Bool.not_true, Bool.not_false, Bool.not_not, List.reverse_cons, List.reverse_nil, Option.map_some, Option.map_none, up_same, uSet, atI_zero, atI_one, ixN_20, ixN_zero, List.set_cons_zero, uPow, decide_true, t2__law_same]
    refine len_sq (.inl rfl) ?_
    simp only [inH_xc, inH_fn, inH_gl, trJ, uFmt, uXf, uXi, gam_hf, gam_xc, tab_kin, trSs, trS, trE, trT, trX, pl, trA, trO, trC, trI, uBin_s, uUn_s, uVar_s, uC_s, getS, setS, uOp, uAdd, uSub, uMul, uDiv, uMod, uPow, uNeg, uCmp, uEqF, uLt, uLe, uGt, uGe, uIsF, isNonU, uTru, Blt.fn, uAbs, uMax2, uMin2, uInt, startU, gam_fn, gam_gl, tab_xcs, tab_sub, UD_nx, UD_rt, UD_bk, UD_ct, UD_ex, spAt, glAt, gls, List.map_cons, List.map_nil, List.cons_append, List.nil_append, List.length_cons, List.length_nil, List.replicate, Nat.reduceAdd, Nat.reduceSub, Nat.zero_add, reduceIte, Bool.false_eq_true, Bool.true_eq_false, Bool.false_bne, Bool.true_bne, Bool.not_true, Bool.not_false, Bool.not_not, List.reverse_cons, List.reverse_nil, Option.map_some, Option.map_none, up_same, uSet, atI_zero, atI_one, ixN_20, ixN_zero, List.set_cons_zero, uPow]
    refine ⟨by unfold small62; omega, ?_⟩
    rw [Int.toNat_natCast]
    refine l__law_same hw _ (fun _ _ _ => trivial) ws.length 0 _ G (by omega) fun o => ?_
    simp only [inH_xc, inH_fn, inH_gl, trJ, uFmt, uXf, uXi, gam_hf, gam_xc, tab_kin, trSs, trS, trE, trT, trX, pl, trA, trO, trC, trI, uBin_s, uUn_s, uVar_s, uC_s, getS, setS, uOp, uAdd, uSub, uMul, uDiv, uMod, uPow, uNeg, uCmp, uEqF, uLt, uLe, uGt, uGe, uIsF, isNonU, uTru, Blt.fn, uAbs, uMax2, uMin2, uInt, startU, gam_fn, gam_gl, tab_xcs, tab_sub, UD_nx, UD_rt, UD_bk, UD_ct, UD_ex, spAt, glAt, gls, List.map_cons, List.map_nil, List.cons_append, List.nil_append, List.length_cons, List.length_nil, List.replicate, Nat.reduceAdd, Nat.reduceSub, Nat.zero_add, reduceIte, Bool.false_eq_true, Bool.true_eq_false, Bool.false_bne, Bool.true_bne, Bool.not_true, Bool.not_false, Bool.not_not, List.reverse_cons, List.reverse_nil, Option.map_some, Option.map_none, up_same, uSet, atI_zero, atI_one, ixN_20, ixN_zero, List.set_cons_zero, uPow, t1__law_same]
    exact fin.of q
  | _ => rcases hu with hu | ⟨ws', e, _⟩ <;> first | cases hu | cases e
/-! ### _law_number -/
def numM (l : List Nat) (most : Nat) : Option Nat := match figs l with
  | some n => if most < n then none else some n
  | none => none
def sp__law_number : USp := fun us G Q _ => ∃ (l : List Nat) (most : Nat), us = [.str (SX.S l), .int most] ∧ l.length ≤ 1000000 ∧ Q (optN (numM l most)) G
def cl__law_number : List (Str × USp) := []
theorem l__law_number {G : UH} {t0 t1 : Option U} (D : UE) : ∀ (l : List Nat) (o : Option U), (l.all dig = false → D.rt .non G) → (l.all dig = true → ∀ o, D.nx [t0, t1, o] G) →
    forU [] (trG (.nm 2)) (trSs (TB cl__law_number) (GM cl__law_number) l1__law_number) D (l.map fun c => U.str ⟨#[c]⟩) [t0, t1, o] G
  | [], o, _, q => ⟨trivial, q rfl o⟩
  | c :: l, o, qf, q => by
    have next := fun o => l__law_number (G := G) (t0 := t0) (t1 := t1) D l o
    refine ⟨trivial, ?_⟩
    show _
    generalize forU _ _ _ D (l.map fun c => U.str ⟨#[c]⟩) = T at next ⊢
    simp only [inH_xc, inH_fn, inH_gl, trJ, uFmt, uXf, uXi, gam_hf, gam_xc, tab_kin, trSs, trS, trE, trT, trX, pl, trA, trO, trC, trI, uBin_s, uUn_s, uVar_s, uC_s, getS, setS, uOp, uAdd, uSub, uMul, uDiv, uMod, uPow, uNeg, uCmp, uEqF, uLt, uLe, uGt, uGe, uIsF, isNonU, uTru, Blt.fn, uAbs, uMax2, uMin2, uInt, startU, gam_fn, gam_gl, tab_xcs, tab_sub, UD_nx, UD_rt, UD_bk, UD_ct, UD_ex, spAt, glAt, gls, List.map_cons, List.map_nil, List.cons_append, List.nil_append, List.length_cons, List.length_nil, List.replicate, Nat.reduceAdd, Nat.reduceSub, Nat.zero_add, reduceIte, Bool.false_eq_true, Bool.true_eq_false, Bool.false_bne, Bool.true_bne, Bool.not_true, Bool.not_false, Bool.not_not, List.reverse_cons, List.reverse_nil, Option.map_some, Option.map_none, up_same, uSet, atI_zero, atI_one, ixN_20, ixN_zero, List.set_cons_zero, uPow, trG, l1__law_number, uInF]
    refine ⟨rfl, ?_⟩
    have e : decide ((⟨#[c]⟩ : Str).cps.getD 0 0 ∈ (Str.ofString "0123456789").cps.toList) = dig c := dig_mem c
    cases hd : dig c with
    | false =>
      rw [hd] at e
      simp only [inH_xc, inH_fn, inH_gl, trJ, uFmt, uXf, uXi, gam_hf, gam_xc, tab_kin, trSs, trS, trE, trT, trX, pl, trA, trO, trC, trI, uBin_s, uUn_s, uVar_s, uC_s, getS, setS, uOp, uAdd, uSub, uMul, uDiv, uMod, uPow, uNeg, uCmp, uEqF, uLt, uLe, uGt, uGe, uIsF, isNonU, uTru, Blt.fn, uAbs, uMax2, uMin2, uInt, startU, gam_fn, gam_gl, tab_xcs, tab_sub, UD_nx, UD_rt, UD_bk, UD_ct, UD_ex, spAt, glAt, gls, List.map_cons, List.map_nil, List.cons_append, List.nil_append, List.length_cons, List.length_nil, List.replicate, Nat.reduceAdd, Nat.reduceSub, Nat.zero_add, reduceIte, Bool.false_eq_true, Bool.true_eq_false, Bool.false_bne, Bool.true_bne, Bool.not_true, Bool.not_false, Bool.not_not, List.reverse_cons, List.reverse_nil, Option.map_some, Option.map_none, up_same, uSet, atI_zero, atI_one, ixN_20, ixN_zero, List.set_cons_zero, uPow, e]
      exact qf (by rw [List.all_cons, hd]; rfl)
    | true =>
      rw [hd] at e
      simp only [inH_xc, inH_fn, inH_gl, trJ, uFmt, uXf, uXi, gam_hf, gam_xc, tab_kin, trSs, trS, trE, trT, trX, pl, trA, trO, trC, trI, uBin_s, uUn_s, uVar_s, uC_s, getS, setS, uOp, uAdd, uSub, uMul, uDiv, uMod, uPow, uNeg, uCmp, uEqF, uLt, uLe, uGt, uGe, uIsF, isNonU, uTru, Blt.fn, uAbs, uMax2, uMin2, uInt, startU, gam_fn, gam_gl, tab_xcs, tab_sub, UD_nx, UD_rt, UD_bk, UD_ct, UD_ex, spAt, glAt, gls, List.map_cons, List.map_nil, List.cons_append, List.nil_append, List.length_cons, List.length_nil, List.replicate, Nat.reduceAdd, Nat.reduceSub, Nat.zero_add, reduceIte, Bool.false_eq_true, Bool.true_eq_false, Bool.false_bne, Bool.true_bne, Bool.not_true, Bool.not_false, Bool.not_not, List.reverse_cons, List.reverse_nil, Option.map_some, Option.map_none, up_same, uSet, atI_zero, atI_one, ixN_20, ixN_zero, List.set_cons_zero, uPow, e]
      exact ⟨G, .refl _, next _ (fun h => qf (by rw [List.all_cons, hd, h]; rfl)) (fun h => q (by rw [List.all_cons, hd, h]; rfl))⟩
theorem w__law_number (us : List U) (G : UH) (Q : UK) (E : UXn → UH → Prop) (h : sp__law_number us G Q E) : trSs (TB cl__law_number) (GM cl__law_number) b__law_number (UD Q E) (startU n__law_number us) G := by
  obtain ⟨l, most, rfl, hl, q⟩ := h
  have lg := line_ge
  unfold numM figs at q
  by_cases h1 : l = []
  · rw [if_pos (.inl h1)] at q
    simp only [inH_xc, inH_fn, inH_gl, trJ, uFmt, uXf, uXi, gam_hf, gam_xc, tab_kin, trSs, trS, trE, trT, trX, pl, trA, trO, trC, trI, uBin_s, uUn_s, uVar_s, uC_s, getS, setS, uOp, uAdd, uSub, uMul, uDiv, uMod, uPow, uNeg, uCmp, uEqF, uLt, uLe, uGt, uGe, uIsF, isNonU, uTru, Blt.fn, uAbs, uMax2, uMin2, uInt, startU, gam_fn, gam_gl, tab_xcs, tab_sub, UD_nx, UD_rt, UD_bk, UD_ct, UD_ex, spAt, glAt, gls, List.map_cons, List.map_nil, List.cons_append, List.nil_append, List.length_cons, List.length_nil, List.replicate, Nat.reduceAdd, Nat.reduceSub, Nat.zero_add, reduceIte, Bool.false_eq_true, Bool.true_eq_false, Bool.false_bne, Bool.true_bne, Bool.not_true, Bool.not_false, Bool.not_not, List.reverse_cons, List.reverse_nil, Option.map_some, Option.map_none, up_same, uSet, atI_zero, atI_one, ixN_20, ixN_zero, List.set_cons_zero, uPow, b__law_number, n__law_number, S_lit, h1, show decide (([] : List Nat) = TL.tl (Str.ofString "")) = true from rfl]
    exact fin.of q
  · by_cases h2 : 7 < l.length
    · rw [if_pos (.inr (.inl h2))] at q
      simp only [inH_xc, inH_fn, inH_gl, trJ, uFmt, uXf, uXi, gam_hf, gam_xc, tab_kin, trSs, trS, trE, trT, trX, pl, trA, trO, trC, trI, uBin_s, uUn_s, uVar_s, uC_s, getS, setS, uOp, uAdd, uSub, uMul, uDiv, uMod, uPow, uNeg, uCmp, uEqF, uLt, uLe, uGt, uGe, uIsF, isNonU, uTru, Blt.fn, uAbs, uMax2, uMin2, uInt, startU, gam_fn, gam_gl, tab_xcs, tab_sub, UD_nx, UD_rt, UD_bk, UD_ct, UD_ex, spAt, glAt, gls, List.map_cons, List.map_nil, List.cons_append, List.nil_append, List.length_cons, List.length_nil, List.replicate, Nat.reduceAdd, Nat.reduceSub, Nat.zero_add, reduceIte, Bool.false_eq_true, Bool.true_eq_false, Bool.false_bne, Bool.true_bne, Bool.not_true, Bool.not_false, Bool.not_not, List.reverse_cons, List.reverse_nil, Option.map_some, Option.map_none, up_same, uSet, atI_zero, atI_one, ixN_20, ixN_zero, List.set_cons_zero, uPow, b__law_number, n__law_number, S_lit, show decide (l = TL.tl (Str.ofString "")) = false from decide_eq_false h1, uLen, SX.S_len]
      refine ⟨by omega, ?_⟩
      simp only [inH_xc, inH_fn, inH_gl, trJ, uFmt, uXf, uXi, gam_hf, gam_xc, tab_kin, trSs, trS, trE, trT, trX, pl, trA, trO, trC, trI, uBin_s, uUn_s, uVar_s, uC_s, getS, setS, uOp, uAdd, uSub, uMul, uDiv, uMod, uPow, uNeg, uCmp, uEqF, uLt, uLe, uGt, uGe, uIsF, isNonU, uTru, Blt.fn, uAbs, uMax2, uMin2, uInt, startU, gam_fn, gam_gl, tab_xcs, tab_sub, UD_nx, UD_rt, UD_bk, UD_ct, UD_ex, spAt, glAt, gls, List.map_cons, List.map_nil, List.cons_append, List.nil_append, List.length_cons, List.length_nil, List.replicate, Nat.reduceAdd, Nat.reduceSub, Nat.zero_add, reduceIte, Bool.false_eq_true, Bool.true_eq_false, Bool.false_bne, Bool.true_bne, Bool.not_true, Bool.not_false, Bool.not_not, List.reverse_cons, List.reverse_nil, Option.map_some, Option.map_none, up_same, uSet, atI_zero, atI_one, ixN_20, ixN_zero, List.set_cons_zero, uPow, show decide ((7 : Int) < (l.length : Int)) = true from decide_eq_true (by omega)]
      exact fin.of q
    · obtain ⟨c, r, rfl⟩ : ∃ c r, l = c :: r := by
        cases l with
        | nil => exact absurd rfl h1
        | cons c r => exact ⟨c, r, rfl⟩
      have loop : ¬ ((c :: r).head? = some 48 ∧ c :: r ≠ [48]) → trSs (TB cl__law_number) (GM cl__law_number) t3__law_number (UD Q E) [some (.str (SX.S (c :: r))), some (.int most), none] G := fun hz => by
        simp only [inH_xc, inH_fn, inH_gl, trJ, uFmt, uXf, uXi, gam_hf, gam_xc, tab_kin, trSs, trS, trE, trT, trX, pl, trA, trO, trC, trI, uBin_s, uUn_s, uVar_s, uC_s, getS, setS, uOp, uAdd, uSub, uMul, uDiv, uMod, uPow, uNeg, uCmp, uEqF, uLt, uLe, uGt, uGe, uIsF, isNonU, uTru, Blt.fn, uAbs, uMax2, uMin2, uInt, startU, gam_fn, gam_gl, tab_xcs, tab_sub, UD_nx, UD_rt, UD_bk, UD_ct, UD_ex, spAt, glAt, gls, List.map_cons, List.map_nil, List.cons_append, List.nil_append, List.length_cons, List.length_nil, List.replicate, Nat.reduceAdd, Nat.reduceSub, Nat.zero_add, reduceIte, Bool.false_eq_true, Bool.true_eq_false, Bool.false_bne, Bool.true_bne, Bool.not_true, Bool.not_false, Bool.not_not, List.reverse_cons, List.reverse_nil, Option.map_some, Option.map_none, up_same, uSet, atI_zero, atI_one, ixN_20, ixN_zero, List.set_cons_zero, uPow, t3__law_number]
        refine l__law_number _ (c :: r) _ (fun hd => ?_) (fun hd o => ?_)
        · rw [if_pos (.inr (.inr hd))] at q
          exact fin.of q
        · rw [if_neg (by rintro (z | z | z); exact h1 z; exact h2 z; rw [hd] at z; cases z), if_neg hz] at q
          have ev : PySem.intText? (SX.S (c :: r)) = some ((NumText.digitsVal (c :: r) : Nat) : Int) := SX.int_S hd (by simp) (by omega)
          simp only [inH_xc, inH_fn, inH_gl, trJ, uFmt, uXf, uXi, gam_hf, gam_xc, tab_kin, trSs, trS, trE, trT, trX, pl, trA, trO, trC, trI, uBin_s, uUn_s, uVar_s, uC_s, getS, setS, uOp, uAdd, uSub, uMul, uDiv, uMod, uPow, uNeg, uCmp, uEqF, uLt, uLe, uGt, uGe, uIsF, isNonU, uTru, Blt.fn, uAbs, uMax2, uMin2, uInt, startU, gam_fn, gam_gl, tab_xcs, tab_sub, UD_nx, UD_rt, UD_bk, UD_ct, UD_ex, spAt, glAt, gls, List.map_cons, List.map_nil, List.cons_append, List.nil_append, List.length_cons, List.length_nil, List.replicate, Nat.reduceAdd, Nat.reduceSub, Nat.zero_add, reduceIte, Bool.false_eq_true, Bool.true_eq_false, Bool.false_bne, Bool.true_bne, Bool.not_true, Bool.not_false, Bool.not_not, List.reverse_cons, List.reverse_nil, Option.map_some, Option.map_none, up_same, uSet, atI_zero, atI_one, ixN_20, ixN_zero, List.set_cons_zero, uPow, t2__law_number]
          simp only [ev]
          refine ⟨by rw [SX.S_len]; omega, ?_⟩
          simp only at q
          by_cases hm : most < NumText.digitsVal (c :: r)
          · rw [if_pos hm] at q
            simp only [inH_xc, inH_fn, inH_gl, trJ, uFmt, uXf, uXi, gam_hf, gam_xc, tab_kin, trSs, trS, trE, trT, trX, pl, trA, trO, trC, trI, uBin_s, uUn_s, uVar_s, uC_s, getS, setS, uOp, uAdd, uSub, uMul, uDiv, uMod, uPow, uNeg, uCmp, uEqF, uLt, uLe, uGt, uGe, uIsF, isNonU, uTru, Blt.fn, uAbs, uMax2, uMin2, uInt, startU, gam_fn, gam_gl, tab_xcs, tab_sub, UD_nx, UD_rt, UD_bk, UD_ct, UD_ex, spAt, glAt, gls, List.map_cons, List.map_nil, List.cons_append, List.nil_append, List.length_cons, List.length_nil, List.replicate, Nat.reduceAdd, Nat.reduceSub, Nat.zero_add, reduceIte, Bool.false_eq_true, Bool.true_eq_false, Bool.false_bne, Bool.true_bne, Bool.not_true, Bool.not_false, Bool.not_not, List.reverse_cons, List.reverse_nil, Option.map_some, Option.map_none, up_same, uSet, atI_zero, atI_one, ixN_20, ixN_zero, List.set_cons_zero, uPow, show decide ((most : Int) < (NumText.digitsVal (c :: r) : Int)) = true from decide_eq_true (by omega)]
            exact fin.of q
          · rw [if_neg hm] at q
            simp only [inH_xc, inH_fn, inH_gl, trJ, uFmt, uXf, uXi, gam_hf, gam_xc, tab_kin, trSs, trS, trE, trT, trX, pl, trA, trO, trC, trI, uBin_s, uUn_s, uVar_s, uC_s, getS, setS, uOp, uAdd, uSub, uMul, uDiv, uMod, uPow, uNeg, uCmp, uEqF, uLt, uLe, uGt, uGe, uIsF, isNonU, uTru, Blt.fn, uAbs, uMax2, uMin2, uInt, startU, gam_fn, gam_gl, tab_xcs, tab_sub, UD_nx, UD_rt, UD_bk, UD_ct, UD_ex, spAt, glAt, gls, List.map_cons, List.map_nil, List.cons_append, List.nil_append, List.length_cons, List.length_nil, List.replicate, Nat.reduceAdd, Nat.reduceSub, Nat.zero_add, reduceIte, Bool.false_eq_true, Bool.true_eq_false, Bool.false_bne, Bool.true_bne, Bool.not_true, Bool.not_false, Bool.not_not, List.reverse_cons, List.reverse_nil, Option.map_some, Option.map_none, up_same, uSet, atI_zero, atI_one, ixN_20, ixN_zero, List.set_cons_zero, uPow, show decide ((most : Int) < (NumText.digitsVal (c :: r) : Int)) = false from decide_eq_false (by omega), t1__law_number]
            simp only [ev]
            exact ⟨by rw [SX.S_len]; omega, fin.of q⟩
      simp only [inH_xc, inH_fn, inH_gl, trJ, uFmt, uXf, uXi, gam_hf, gam_xc, tab_kin, trSs, trS, trE, trT, trX, pl, trA, trO, trC, trI, uBin_s, uUn_s, uVar_s, uC_s, getS, setS, uOp, uAdd, uSub, uMul, uDiv, uMod, uPow, uNeg, uCmp, uEqF, uLt, uLe, uGt, uGe, uIsF, isNonU, uTru, Blt.fn, uAbs, uMax2, uMin2, uInt, startU, gam_fn, gam_gl, tab_xcs, tab_sub, UD_nx, UD_rt, UD_bk, UD_ct, UD_ex, spAt, glAt, gls, List.map_cons, List.map_nil, List.cons_append, List.nil_append, List.length_cons, List.length_nil, List.replicate, Nat.reduceAdd, Nat.reduceSub, Nat.zero_add, reduceIte, Bool.false_eq_true, Bool.true_eq_false, Bool.false_bne, Bool.true_bne, Bool.not_true, Bool.not_false, Bool.not_not, List.reverse_cons, List.reverse_nil, Option.map_some, Option.map_none, up_same, uSet, atI_zero, atI_one, ixN_20, ixN_zero, List.set_cons_zero, uPow, b__law_number, n__law_number, S_lit, show decide (c :: r = TL.tl (Str.ofString "")) = false from decide_eq_false h1, uLen, SX.S_len]
      refine ⟨by have h2' := h2; simp only [List.length_cons] at h2'; omega, ?_⟩
      simp only [inH_xc, inH_fn, inH_gl, trJ, uFmt, uXf, uXi, gam_hf, gam_xc, tab_kin, trSs, trS, trE, trT, trX, pl, trA, trO, trC, trI, uBin_s, uUn_s, uVar_s, uC_s, getS, setS, uOp, uAdd, uSub, uMul, uDiv, uMod, uPow, uNeg, uCmp, uEqF, uLt, uLe, uGt, uGe, uIsF, isNonU, uTru, Blt.fn, uAbs, uMax2, uMin2, uInt, startU, gam_fn, gam_gl, tab_xcs, tab_sub, UD_nx, UD_rt, UD_bk, UD_ct, UD_ex, spAt, glAt, gls, List.map_cons, List.map_nil, List.cons_append, List.nil_append, List.length_cons, List.length_nil, List.replicate, Nat.reduceAdd, Nat.reduceSub, Nat.zero_add, reduceIte, Bool.false_eq_true, Bool.true_eq_false, Bool.false_bne, Bool.true_bne, Bool.not_true, Bool.not_false, Bool.not_not, List.reverse_cons, List.reverse_nil, Option.map_some, Option.map_none, up_same, uSet, atI_zero, atI_one, ixN_20, ixN_zero, List.set_cons_zero, uPow, show decide ((7 : Int) < (((c :: r).length : Nat) : Int)) = false from decide_eq_false (by omega), show decide ((7 : Int) < ((r.length + 1 : Nat) : Int)) = false from decide_eq_false (by simp only [List.length_cons] at h2; omega), uIx]
      refine ⟨by rw [SX.S_len]; omega, ?_⟩
      rw [atN_zero]
      simp only [inH_xc, inH_fn, inH_gl, trJ, uFmt, uXf, uXi, gam_hf, gam_xc, tab_kin, trSs, trS, trE, trT, trX, pl, trA, trO, trC, trI, uBin_s, uUn_s, uVar_s, uC_s, getS, setS, uOp, uAdd, uSub, uMul, uDiv, uMod, uPow, uNeg, uCmp, uEqF, uLt, uLe, uGt, uGe, uIsF, isNonU, uTru, Blt.fn, uAbs, uMax2, uMin2, uInt, startU, gam_fn, gam_gl, tab_xcs, tab_sub, UD_nx, UD_rt, UD_bk, UD_ct, UD_ex, spAt, glAt, gls, List.map_cons, List.map_nil, List.cons_append, List.nil_append, List.length_cons, List.length_nil, List.replicate, Nat.reduceAdd, Nat.reduceSub, Nat.zero_add, reduceIte, Bool.false_eq_true, Bool.true_eq_false, Bool.false_bne, Bool.true_bne, Bool.not_true, Bool.not_false, Bool.not_not, List.reverse_cons, List.reverse_nil, Option.map_some, Option.map_none, up_same, uSet, atI_zero, atI_one, ixN_20, ixN_zero, List.set_cons_zero, uPow, show (⟨#[c]⟩ : Str) = SX.S [c] from rfl, S_lit, show TL.tl (Str.ofString "0") = [48] from rfl]
      by_cases h3 : [c] = [48]
      · simp only [inH_xc, inH_fn, inH_gl, trJ, uFmt, uXf, uXi, gam_hf, gam_xc, tab_kin, trSs, trS, trE, trT, trX, pl, trA, trO, trC, trI, uBin_s, uUn_s, uVar_s, uC_s, getS, setS, uOp, uAdd, uSub, uMul, uDiv, uMod, uPow, uNeg, uCmp, uEqF, uLt, uLe, uGt, uGe, uIsF, isNonU, uTru, Blt.fn, uAbs, uMax2, uMin2, uInt, startU, gam_fn, gam_gl, tab_xcs, tab_sub, UD_nx, UD_rt, UD_bk, UD_ct, UD_ex, spAt, glAt, gls, List.map_cons, List.map_nil, List.cons_append, List.nil_append, List.length_cons, List.length_nil, List.replicate, Nat.reduceAdd, Nat.reduceSub, Nat.zero_add, reduceIte, Bool.false_eq_true, Bool.true_eq_false, Bool.false_bne, Bool.true_bne, Bool.not_true, Bool.not_false, Bool.not_not, List.reverse_cons, List.reverse_nil, Option.map_some, Option.map_none, up_same, uSet, atI_zero, atI_one, ixN_20, ixN_zero, List.set_cons_zero, uPow, h3, decide_true]
        have h3 : c = 48 := by simpa using h3
        by_cases h4 : c :: r = [48]
        · simp only [inH_xc, inH_fn, inH_gl, trJ, uFmt, uXf, uXi, gam_hf, gam_xc, tab_kin, trSs, trS, trE, trT, trX, pl, trA, trO, trC, trI, uBin_s, uUn_s, uVar_s, uC_s, getS, setS, uOp, uAdd, uSub, uMul, uDiv, uMod, uPow, uNeg, uCmp, uEqF, uLt, uLe, uGt, uGe, uIsF, isNonU, uTru, Blt.fn, uAbs, uMax2, uMin2, uInt, startU, gam_fn, gam_gl, tab_xcs, tab_sub, UD_nx, UD_rt, UD_bk, UD_ct, UD_ex, spAt, glAt, gls, List.map_cons, List.map_nil, List.cons_append, List.nil_append, List.length_cons, List.length_nil, List.replicate, Nat.reduceAdd, Nat.reduceSub, Nat.zero_add, reduceIte, Bool.false_eq_true, Bool.true_eq_false, Bool.false_bne, Bool.true_bne, Bool.not_true, Bool.not_false, Bool.not_not, List.reverse_cons, List.reverse_nil, Option.map_some, Option.map_none, up_same, uSet, atI_zero, atI_one, ixN_20, ixN_zero, List.set_cons_zero, uPow, h4, decide_true]
          rw [← h4]
          exact loop (fun z => z.2 h4)
        · simp only [inH_xc, inH_fn, inH_gl, trJ, uFmt, uXf, uXi, gam_hf, gam_xc, tab_kin, trSs, trS, trE, trT, trX, pl, trA, trO, trC, trI, uBin_s, uUn_s, uVar_s, uC_s, getS, setS, uOp, uAdd, uSub, uMul, uDiv, uMod, uPow, uNeg, uCmp, uEqF, uLt, uLe, uGt, uGe, uIsF, isNonU, uTru, Blt.fn, uAbs, uMax2, uMin2, uInt, startU, gam_fn, gam_gl, tab_xcs, tab_sub, UD_nx, UD_rt, UD_bk, UD_ct, UD_ex, spAt, glAt, gls, List.map_cons, List.map_nil, List.cons_append, List.nil_append, List.length_cons, List.length_nil, List.replicate, Nat.reduceAdd, Nat.reduceSub, Nat.zero_add, reduceIte, Bool.false_eq_true, Bool.true_eq_false, Bool.false_bne, Bool.true_bne, Bool.not_true, Bool.not_false, Bool.not_not, List.reverse_cons, List.reverse_nil, Option.map_some, Option.map_none, up_same, uSet, atI_zero, atI_one, ixN_20, ixN_zero, List.set_cons_zero, uPow, h4, decide_false]
          have : (if (c :: r = [] ∨ 7 < (c :: r).length ∨ (c :: r).all dig = false) then (none : Option Nat) else if (c :: r).head? = some 48 ∧ c :: r ≠ [48] then none else some (NumText.digitsVal (c :: r))) = none := by
            split
            · rfl
            · rw [if_pos ⟨by rw [h3]; rfl, h4⟩]
          rw [this] at q
          exact fin.of q
      · simp only [inH_xc, inH_fn, inH_gl, trJ, uFmt, uXf, uXi, gam_hf, gam_xc, tab_kin, trSs, trS, trE, trT, trX, pl, trA, trO, trC, trI, uBin_s, uUn_s, uVar_s, uC_s, getS, setS, uOp, uAdd, uSub, uMul, uDiv, uMod, uPow, uNeg, uCmp, uEqF, uLt, uLe, uGt, uGe, uIsF, isNonU, uTru, Blt.fn, uAbs, uMax2, uMin2, uInt, startU, gam_fn, gam_gl, tab_xcs, tab_sub, UD_nx, UD_rt, UD_bk, UD_ct, UD_ex, spAt, glAt, gls, List.map_cons, List.map_nil, List.cons_append, List.nil_append, List.length_cons, List.length_nil, List.replicate, Nat.reduceAdd, Nat.reduceSub, Nat.zero_add, reduceIte, Bool.false_eq_true, Bool.true_eq_false, Bool.false_bne, Bool.true_bne, Bool.not_true, Bool.not_false, Bool.not_not, List.reverse_cons, List.reverse_nil, Option.map_some, Option.map_none, up_same, uSet, atI_zero, atI_one, ixN_20, ixN_zero, List.set_cons_zero, uPow, h3, decide_false]
        exact loop (fun z => h3 (by have := z.1; simp only [List.head?_cons, Option.some.injEq] at this; rw [this]))
end K81
set_option Elab.async false
set_option linter.all false
set_option autoImplicit false
set_option maxRecDepth 100000
set_option maxHeartbeats 4000000
set_option pp.maxSteps 1500
set_option pp.deepTerms false
namespace K81
open PySem PySem.Spec L2 UL
/-! ### _law_sound_text -/
def sp__law_sound_text : USp := fun us G Q _ => ∃ ws : List Int, us = [.tup (ws.map U.int)] ∧ Wd1 ws ∧ ws.length ≤ 20000 ∧ ∀ G', Le G G' → Q (.str (SX.S (showL ws))) G'
def cl__law_sound_text : List (Str × USp) := []
theorem enc_S2 (w : Int) (m : Nat) : Str.ofString (toString w) ++ Str.ofString "*" ++ Str.ofString (toString ((m : Nat) : Int)) = SX.S (enc (w, m)) := by
  rw [int_S, num_S, show Str.ofString "*" = SX.S [42] from rfl, SX.S_cat, SX.S_cat]
  unfold enc
  simp
/-- a run is told -/
theorem app_text {W : Addr} {ws : List Int} {w : Int} {m lo k : Nat} {acc : List (List Nat)} {G : UH} (hl : ws.length ≤ 20000) (at0 : atI (ws.map U.int) (k : Int) = some (.int w)) (hw0 : -1048575 ≤ w ∧ w ≤ 1048575) (hm : m ≤ 20000) (hk : k + 1 = lo + m) (ha : acc.length ≤ 20005) (hG : G W = some (.lst (wU acc))) (D : UE)
    (q : D.nx [some (.tup (ws.map U.int)), some (.ref W), some (.int ((lo + m : Nat) : Int)), some (.int (k : Int))] (UL.up G W (.lst (wU (acc ++ [enc (w, m)]))))) :
    trSs (TB cl__law_sound_text) (GM cl__law_sound_text) (.cons (.expr (.mth .append (.var 1) (.cons (.bin .Add (.bin .Add (.blt .str (.cons (.ix (.var 0) (.var 3)) .nil)) (.str "*")) (.blt .str (.cons (.bin .Sub (.bin .Add (.var 3) (.int 1)) (.var 2)) .nil))) .nil))) t1__law_sound_text) D [some (.tup (ws.map U.int)), some (.ref W), some (.int lo), some (.int (k : Int))] G := by
  have lg := line_ge
  have el := enc_len (p := (w, m)) hw0.1 hw0.2 (by show m < _; omega)
  have wl := worthL_len hw0.1 hw0.2
  have nl := TL.numL_len (n := m) (k := 7) (by decide) (by omega)
  have hsub : (k : Int) + 1 - (lo : Int) = (m : Int) := by omega
  simp only [inH_xc, inH_fn, inH_gl, trJ, uFmt, uXf, uXi, gam_hf, gam_xc, tab_kin, trSs, trS, trE, trT, trX, pl, trA, trO, trC, trI, uBin_s, uUn_s, uVar_s, uC_s, getS, setS, uOp, uAdd, uSub, uMul, uDiv, uMod, uPow, uNeg, uCmp, uEqF, uLt, uLe, uGt, uGe, uIsF, isNonU, uTru, Blt.fn, uAbs, uMax2, uMin2, uInt, startU, gam_fn, gam_gl, tab_xcs, tab_sub, UD_nx, UD_rt, UD_bk, UD_ct, UD_ex, spAt, glAt, gls, List.map_cons, List.map_nil, List.cons_append, List.nil_append, List.length_cons, List.length_nil, List.replicate, Nat.reduceAdd, Nat.reduceSub, Nat.zero_add, reduceIte, Bool.false_eq_true, Bool.true_eq_false, Bool.false_bne, Bool.true_bne, Bool.not_true, Bool.not_false, Bool.not_not, List.reverse_cons, List.reverse_nil, Option.map_some, Option.map_none, up_same, uSet, atI_zero, atI_one, ixN_20, ixN_zero, List.set_cons_zero, uPow, Mth.T, Mth.fn, mTy, uL, hG]
  refine ⟨trivial, ?_⟩
  refine ix_sq (.inl rfl) at0 ?_
  simp only [inH_xc, inH_fn, inH_gl, trJ, uFmt, uXf, uXi, gam_hf, gam_xc, tab_kin, trSs, trS, trE, trT, trX, pl, trA, trO, trC, trI, uBin_s, uUn_s, uVar_s, uC_s, getS, setS, uOp, uAdd, uSub, uMul, uDiv, uMod, uPow, uNeg, uCmp, uEqF, uLt, uLe, uGt, uGe, uIsF, isNonU, uTru, Blt.fn, uAbs, uMax2, uMin2, uInt, startU, gam_fn, gam_gl, tab_xcs, tab_sub, UD_nx, UD_rt, UD_bk, UD_ct, UD_ex, spAt, glAt, gls, List.map_cons, List.map_nil, List.cons_append, List.nil_append, List.length_cons, List.length_nil, List.replicate, Nat.reduceAdd, Nat.reduceSub, Nat.zero_add, reduceIte, Bool.false_eq_true, Bool.true_eq_false, Bool.false_bne, Bool.true_bne, Bool.not_true, Bool.not_false, Bool.not_not, List.reverse_cons, List.reverse_nil, Option.map_some, Option.map_none, up_same, uSet, atI_zero, atI_one, ixN_20, ixN_zero, List.set_cons_zero, uPow, uStr, hsub, hG]
  refine ⟨log2_small (by omega), ?_, log2_small (by omega), ?_, ?_, ?_⟩
  · rw [int_S, SX.S_len, show Str.ofString "*" = SX.S [42] from rfl, SX.S_len]; simp; omega
  · rw [int_S, num_S, show Str.ofString "*" = SX.S [42] from rfl, SX.S_cat, SX.S_len, SX.S_len]; simp; omega
  · simp; omega
  · simp only [inH_xc, inH_fn, inH_gl, trJ, uFmt, uXf, uXi, gam_hf, gam_xc, tab_kin, trSs, trS, trE, trT, trX, pl, trA, trO, trC, trI, uBin_s, uUn_s, uVar_s, uC_s, getS, setS, uOp, uAdd, uSub, uMul, uDiv, uMod, uPow, uNeg, uCmp, uEqF, uLt, uLe, uGt, uGe, uIsF, isNonU, uTru, Blt.fn, uAbs, uMax2, uMin2, uInt, startU, gam_fn, gam_gl, tab_xcs, tab_sub, UD_nx, UD_rt, UD_bk, UD_ct, UD_ex, spAt, glAt, gls, List.map_cons, List.map_nil, List.cons_append, List.nil_append, List.length_cons, List.length_nil, List.replicate, Nat.reduceAdd, Nat.reduceSub, Nat.zero_add, reduceIte, Bool.false_eq_true, Bool.true_eq_false, Bool.false_bne, Bool.true_bne, Bool.not_true, Bool.not_false, Bool.not_not, List.reverse_cons, List.reverse_nil, Option.map_some, Option.map_none, up_same, uSet, atI_zero, atI_one, ixN_20, ixN_zero, List.set_cons_zero, uPow, t1__law_sound_text, trG]
    rw [enc_S2, show (k : Int) + 1 = ((lo + m : Nat) : Int) by omega]
    simpa [wU] using q
theorem l_text {W : Addr} {ws : List Int} (hl : ws.length ≤ 20000) (hw : Wd1 ws) (D : UE) : ∀ (r done : List Int) (m : Nat) (w : Int) (acc : List (List Nat)) (k : Nat) (o : Option U) (G : UH), ws = done ++ List.replicate m w ++ r → m ≠ 0 → k + 1 = done.length + m → acc.length + r.length ≤ 20005 → G W = some (.lst (wU acc)) →
    (∀ o2 o3, D.nx [some (.tup (ws.map U.int)), some (.ref W), o2, o3] (UL.up G W (.lst (wU (acc ++ (runs w m r).map enc))))) →
    forU [] (trG (.nm 3)) (trSs (TB cl__law_sound_text) (GM cl__law_sound_text) l1__law_sound_text) D (rangeU (k : Int) 1 (r.length + 1)) [some (.tup (ws.map U.int)), some (.ref W), some (.int done.length), o] G
  | [], done, m, w, acc, k, o, G, e, hm, hk, ha, hG, q => by
    have lg := line_ge
    have hlen : ws.length = done.length + m := by rw [e]; simp
    have hw0 := hw w (by rw [e]; simp [hm])
    have at0 : atI (ws.map U.int) (k : Int) = some (.int w) := atI_nat (by omega) (by
      rw [Int.toNat_natCast, List.getElem?_map, e, List.append_nil, List.getElem?_append_right (by omega), List.getElem?_replicate, if_pos (by omega)]
      rfl)
    refine ⟨trivial, ?_⟩
    show _
    have next : ∀ o2 o3, forU [] (trG (.nm 3)) (trSs (TB cl__law_sound_text) (GM cl__law_sound_text) l1__law_sound_text) D (rangeU ((k : Int) + 1) 1 0) [some (.tup (ws.map U.int)), some (.ref W), o2, o3] (UL.up G W (.lst (wU (acc ++ [enc (w, m)])))) := fun o2 o3 => ⟨trivial, q o2 o3⟩
    generalize forU _ _ _ D (rangeU _ 1 0) = T at next ⊢
    simp only [inH_xc, inH_fn, inH_gl, trJ, uFmt, uXf, uXi, gam_hf, gam_xc, tab_kin, trSs, trS, trE, trT, trX, pl, trA, trO, trC, trI, uBin_s, uUn_s, uVar_s, uC_s, getS, setS, uOp, uAdd, uSub, uMul, uDiv, uMod, uPow, uNeg, uCmp, uEqF, uLt, uLe, uGt, uGe, uIsF, isNonU, uTru, Blt.fn, uAbs, uMax2, uMin2, uInt, startU, gam_fn, gam_gl, tab_xcs, tab_sub, UD_nx, UD_rt, UD_bk, UD_ct, UD_ex, spAt, glAt, gls, List.map_cons, List.map_nil, List.cons_append, List.nil_append, List.length_cons, List.length_nil, List.replicate, Nat.reduceAdd, Nat.reduceSub, Nat.zero_add, reduceIte, Bool.false_eq_true, Bool.true_eq_false, Bool.false_bne, Bool.true_bne, Bool.not_true, Bool.not_false, Bool.not_not, List.reverse_cons, List.reverse_nil, Option.map_some, Option.map_none, up_same, uSet, atI_zero, atI_one, ixN_20, ixN_zero, List.set_cons_zero, uPow, trG, l1__law_sound_text]
    refine len_sq (.inl rfl) ?_
    simp only [inH_xc, inH_fn, inH_gl, trJ, uFmt, uXf, uXi, gam_hf, gam_xc, tab_kin, trSs, trS, trE, trT, trX, pl, trA, trO, trC, trI, uBin_s, uUn_s, uVar_s, uC_s, getS, setS, uOp, uAdd, uSub, uMul, uDiv, uMod, uPow, uNeg, uCmp, uEqF, uLt, uLe, uGt, uGe, uIsF, isNonU, uTru, Blt.fn, uAbs, uMax2, uMin2, uInt, startU, gam_fn, gam_gl, tab_xcs, tab_sub, UD_nx, UD_rt, UD_bk, UD_ct, UD_ex, spAt, glAt, gls, List.map_cons, List.map_nil, List.cons_append, List.nil_append, List.length_cons, List.length_nil, List.replicate, Nat.reduceAdd, Nat.reduceSub, Nat.zero_add, reduceIte, Bool.false_eq_true, Bool.true_eq_false, Bool.false_bne, Bool.true_bne, Bool.not_true, Bool.not_false, Bool.not_not, List.reverse_cons, List.reverse_nil, Option.map_some, Option.map_none, up_same, uSet, atI_zero, atI_one, ixN_20, ixN_zero, List.set_cons_zero, uPow, List.length_map, hlen, show decide ((k : Int) + 1 = ((done.length + m : Nat) : Int)) = true from decide_eq_true (by omega)]
    exact app_text hl at0 hw0 (by omega) hk (by omega) hG _ ⟨_, .refl _, next _ _⟩
  | x :: r, done, m, w, acc, k, o, G, e, hm, hk, ha, hG, q => by
    have lg := line_ge
    have hlen : ws.length = done.length + m + (r.length + 1) := by rw [e]; simp; omega
    have hw0 := hw w (by rw [e]; simp [hm])
    simp only [List.length_cons] at ha
    have at0 : atI (ws.map U.int) (k : Int) = some (.int w) := atI_nat (by omega) (by
      rw [Int.toNat_natCast, List.getElem?_map, e, List.append_assoc, List.getElem?_append_right (by omega), List.getElem?_append_left (by simp; omega), List.getElem?_replicate, if_pos (by omega)]
      rfl)
    have at1 : atI (ws.map U.int) ((k : Int) + 1) = some (.int x) := atI_nat (by omega) (by
      rw [show ((k : Int) + 1).toNat = done.length + m by omega, List.getElem?_map, e, List.getElem?_append_right (by simp)]
      simp)
    refine ⟨trivial, ?_⟩
    show _
    have e1 : ((k : Int) + 1) = ((k + 1 : Nat) : Int) := by omega
    have nx1 : x = w → ∀ o, forU [] (trG (.nm 3)) (trSs (TB cl__law_sound_text) (GM cl__law_sound_text) l1__law_sound_text) D (rangeU ((k : Int) + 1) 1 (r.length + 1)) [some (.tup (ws.map U.int)), some (.ref W), some (.int done.length), o] G := fun h o => by
      rw [e1]
      refine l_text hl hw D r done (m + 1) w acc (k + 1) o G (by rw [e, h, List.replicate_succ']; simp) (by omega) (by omega) (by omega) hG fun o2 o3 => ?_
      have := q o2 o3
      simp only [runs] at this
      rw [if_pos h] at this
      exact this
    have nx2 : x ≠ w → ∀ o, forU [] (trG (.nm 3)) (trSs (TB cl__law_sound_text) (GM cl__law_sound_text) l1__law_sound_text) D (rangeU ((k : Int) + 1) 1 (r.length + 1)) [some (.tup (ws.map U.int)), some (.ref W), some (.int ((done.length + m : Nat) : Int)), o] (UL.up G W (.lst (wU (acc ++ [enc (w, m)])))) := fun h o => by
      rw [e1]
      have z := l_text hl hw D r (done ++ List.replicate m w) 1 x (acc ++ [enc (w, m)]) (k + 1) o (UL.up G W (.lst (wU (acc ++ [enc (w, m)])))) (by rw [e]; simp) (by decide) (by simp; omega) (by simp; omega) up_same fun o2 o3 => by
        have := q o2 o3
        simp only [runs] at this
        rw [if_neg h, List.map_cons] at this
        rw [up_up, List.append_assoc]
        exact this
      rw [show (((done ++ List.replicate m w).length : Nat) : Int) = ((done.length + m : Nat) : Int) by simp] at z
      exact z
    generalize forU _ _ _ D (rangeU _ 1 (r.length + 1)) = T at nx1 nx2 ⊢
    simp only [inH_xc, inH_fn, inH_gl, trJ, uFmt, uXf, uXi, gam_hf, gam_xc, tab_kin, trSs, trS, trE, trT, trX, pl, trA, trO, trC, trI, uBin_s, uUn_s, uVar_s, uC_s, getS, setS, uOp, uAdd, uSub, uMul, uDiv, uMod, uPow, uNeg, uCmp, uEqF, uLt, uLe, uGt, uGe, uIsF, isNonU, uTru, Blt.fn, uAbs, uMax2, uMin2, uInt, startU, gam_fn, gam_gl, tab_xcs, tab_sub, UD_nx, UD_rt, UD_bk, UD_ct, UD_ex, spAt, glAt, gls, List.map_cons, List.map_nil, List.cons_append, List.nil_append, List.length_cons, List.length_nil, List.replicate, Nat.reduceAdd, Nat.reduceSub, Nat.zero_add, reduceIte, Bool.false_eq_true, Bool.true_eq_false, Bool.false_bne, Bool.true_bne, Bool.not_true, Bool.not_false, Bool.not_not, List.reverse_cons, List.reverse_nil, Option.map_some, Option.map_none, up_same, uSet, atI_zero, atI_one, ixN_20, ixN_zero, List.set_cons_zero, uPow, trG, l1__law_sound_text]
    refine len_sq (.inl rfl) ?_
    simp only [inH_xc, inH_fn, inH_gl, trJ, uFmt, uXf, uXi, gam_hf, gam_xc, tab_kin, trSs, trS, trE, trT, trX, pl, trA, trO, trC, trI, uBin_s, uUn_s, uVar_s, uC_s, getS, setS, uOp, uAdd, uSub, uMul, uDiv, uMod, uPow, uNeg, uCmp, uEqF, uLt, uLe, uGt, uGe, uIsF, isNonU, uTru, Blt.fn, uAbs, uMax2, uMin2, uInt, startU, gam_fn, gam_gl, tab_xcs, tab_sub, UD_nx, UD_rt, UD_bk, UD_ct, UD_ex, spAt, glAt, gls, List.map_cons, List.map_nil, List.cons_append, List.nil_append, List.length_cons, List.length_nil, List.replicate, Nat.reduceAdd, Nat.reduceSub, Nat.zero_add, reduceIte, Bool.false_eq_true, Bool.true_eq_false, Bool.false_bne, Bool.true_bne, Bool.not_true, Bool.not_false, Bool.not_not, List.reverse_cons, List.reverse_nil, Option.map_some, Option.map_none, up_same, uSet, atI_zero, atI_one, ixN_20, ixN_zero, List.set_cons_zero, uPow, List.length_map, hlen, show decide ((k : Int) + 1 = ((done.length + m + (r.length + 1) : Nat) : Int)) = false from decide_eq_false (by omega)]
    refine ix_sq (.inl rfl) at1 ?_
    refine ix_sq (.inl rfl) at0 ?_
    by_cases h : x = w
    · simp only [inH_xc, inH_fn, inH_gl, trJ, uFmt, uXf, uXi, gam_hf, gam_xc, tab_kin, trSs, trS, trE, trT, trX, pl, trA, trO, trC, trI, uBin_s, uUn_s, uVar_s, uC_s, getS, setS, uOp, uAdd, uSub, uMul, uDiv, uMod, uPow, uNeg, uCmp, uEqF, uLt, uLe, uGt, uGe, uIsF, isNonU, uTru, Blt.fn, uAbs, uMax2, uMin2, uInt, startU, gam_fn, gam_gl, tab_xcs, tab_sub, UD_nx, UD_rt, UD_bk, UD_ct, UD_ex, spAt, glAt, gls, List.map_cons, List.map_nil, List.cons_append, List.nil_append, List.length_cons, List.length_nil, List.replicate, Nat.reduceAdd, Nat.reduceSub, Nat.zero_add, reduceIte, Bool.false_eq_true, Bool.true_eq_false, Bool.false_bne, Bool.true_bne, Bool.not_true, Bool.not_false, Bool.not_not, List.reverse_cons, List.reverse_nil, Option.map_some, Option.map_none, up_same, uSet, atI_zero, atI_one, ixN_20, ixN_zero, List.set_cons_zero, uPow, h, decide_true]
      exact ⟨_, .refl _, nx1 h _⟩
    · simp only [inH_xc, inH_fn, inH_gl, trJ, uFmt, uXf, uXi, gam_hf, gam_xc, tab_kin, trSs, trS, trE, trT, trX, pl, trA, trO, trC, trI, uBin_s, uUn_s, uVar_s, uC_s, getS, setS, uOp, uAdd, uSub, uMul, uDiv, uMod, uPow, uNeg, uCmp, uEqF, uLt, uLe, uGt, uGe, uIsF, isNonU, uTru, Blt.fn, uAbs, uMax2, uMin2, uInt, startU, gam_fn, gam_gl, tab_xcs, tab_sub, UD_nx, UD_rt, UD_bk, UD_ct, UD_ex, spAt, glAt, gls, List.map_cons, List.map_nil, List.cons_append, List.nil_append, List.length_cons, List.length_nil, List.replicate, Nat.reduceAdd, Nat.reduceSub, Nat.zero_add, reduceIte, Bool.false_eq_true, Bool.true_eq_false, Bool.false_bne, Bool.true_bne, Bool.not_true, Bool.not_false, Bool.not_not, List.reverse_cons, List.reverse_nil, Option.map_some, Option.map_none, up_same, uSet, atI_zero, atI_one, ixN_20, ixN_zero, List.set_cons_zero, uPow, h, decide_false]
      exact app_text hl at0 hw0 (by omega) hk (by omega) hG _ ⟨_, .refl _, nx2 h _⟩
theorem w__law_sound_text (us : List U) (G : UH) (Q : UK) (E : UXn → UH → Prop) (h : sp__law_sound_text us G Q E) : trSs (TB cl__law_sound_text) (GM cl__law_sound_text) b__law_sound_text (UD Q E) (startU n__law_sound_text us) G := by
  obtain ⟨ws, rfl, hw, hl, q⟩ := h
  have lg := line_ge
  simp only [inH_xc, inH_fn, inH_gl, trJ, uFmt, uXf, uXi, gam_hf, gam_xc, tab_kin, trSs, trS, trE, trT, trX, pl, trA, trO, trC, trI, uBin_s, uUn_s, uVar_s, uC_s, getS, setS, uOp, uAdd, uSub, uMul, uDiv, uMod, uPow, uNeg, uCmp, uEqF, uLt, uLe, uGt, uGe, uIsF, isNonU, uTru, Blt.fn, uAbs, uMax2, uMin2, uInt, startU, gam_fn, gam_gl, tab_xcs, tab_sub, UD_nx, UD_rt, UD_bk, UD_ct, UD_ex, spAt, glAt, gls, List.map_cons, List.map_nil, List.cons_append, List.nil_append, List.length_cons, List.length_nil, List.replicate, Nat.reduceAdd, Nat.reduceSub, Nat.zero_add, reduceIte, Bool.false_eq_true, Bool.true_eq_false, Bool.false_bne, Bool.true_bne, Bool.not_true, Bool.not_false, Bool.not_not, List.reverse_cons, List.reverse_nil, Option.map_some, Option.map_none, up_same, uSet, atI_zero, atI_one, ixN_20, ixN_zero, List.set_cons_zero, uPow, b__law_sound_text, n__law_sound_text, trG, uStr]
  refine len_sq (.inl rfl) ?_
  simp only [inH_xc, inH_fn, inH_gl, trJ, uFmt, uXf, uXi, gam_hf, gam_xc, tab_kin, trSs, trS, trE, trT, trX, pl, trA, trO, trC, trI, uBin_s, uUn_s, uVar_s, uC_s, getS, setS, uOp, uAdd, uSub, uMul, uDiv, uMod, uPow, uNeg, uCmp, uEqF, uLt, uLe, uGt, uGe, uIsF, isNonU, uTru, Blt.fn, uAbs, uMax2, uMin2, uInt, startU, gam_fn, gam_gl, tab_xcs, tab_sub, UD_nx, UD_rt, UD_bk, UD_ct, UD_ex, spAt, glAt, gls, List.map_cons, List.map_nil, List.cons_append, List.nil_append, List.length_cons, List.length_nil, List.replicate, Nat.reduceAdd, Nat.reduceSub, Nat.zero_add, reduceIte, Bool.false_eq_true, Bool.true_eq_false, Bool.false_bne, Bool.true_bne, Bool.not_true, Bool.not_false, Bool.not_not, List.reverse_cons, List.reverse_nil, Option.map_some, Option.map_none, up_same, uSet, atI_zero, atI_one, ixN_20, ixN_zero, List.set_cons_zero, uPow, List.length_map, num_S, uStr]
  refine ⟨log2_small (by omega), by omega, fun W hW => ?_⟩
  have L1 := Le.new (o := .lst [U.str (Str.ofString "sound"), U.str (SX.S (TL.numL ws.length))]) hW
  have eW : UL.up G W (.lst [U.str (Str.ofString "sound"), U.str (SX.S (TL.numL ws.length))]) W = some (.lst (wU [sndL, TL.numL ws.length])) := up_same
  have fin_ : ∀ o2 o3 G', Le G G' → G' W = some (.lst (wU (showW ws))) → trSs (TB cl__law_sound_text) (GM cl__law_sound_text) t2__law_sound_text (UD Q E) [some (.tup (ws.map U.int)), some (.ref W), o2, o3] G' := fun o2 o3 G' l e' => by
    obtain ⟨b1, b2⟩ := showW_bd hw hl
    have b3 := sum_le b2
    simp only [inH_xc, inH_fn, inH_gl, trJ, uFmt, uXf, uXi, gam_hf, gam_xc, tab_kin, trSs, trS, trE, trT, trX, pl, trA, trO, trC, trI, uBin_s, uUn_s, uVar_s, uC_s, getS, setS, uOp, uAdd, uSub, uMul, uDiv, uMod, uPow, uNeg, uCmp, uEqF, uLt, uLe, uGt, uGe, uIsF, isNonU, uTru, Blt.fn, uAbs, uMax2, uMin2, uInt, startU, gam_fn, gam_gl, tab_xcs, tab_sub, UD_nx, UD_rt, UD_bk, UD_ct, UD_ex, spAt, glAt, gls, List.map_cons, List.map_nil, List.cons_append, List.nil_append, List.length_cons, List.length_nil, List.replicate, Nat.reduceAdd, Nat.reduceSub, Nat.zero_add, reduceIte, Bool.false_eq_true, Bool.true_eq_false, Bool.false_bne, Bool.true_bne, Bool.not_true, Bool.not_false, Bool.not_not, List.reverse_cons, List.reverse_nil, Option.map_some, Option.map_none, up_same, uSet, atI_zero, atI_one, ixN_20, ixN_zero, List.set_cons_zero, uPow, t2__law_sound_text, Mth.T, Mth.fn, mTy, uL, e']
    rw [strsOf_map]
    refine ⟨trivial, ?_, ?_⟩
    · rw [lens, List.length_map]
      show _ + _ * 1 ≤ _
      omega
    · rw [show Str.ofString " " = SX.S [32] from rfl, SX.join_S]
      exact fin.of (q G' l)
  generalize UL.up G W _ = G1 at L1 eW ⊢
  simp only [inH_xc, inH_fn, inH_gl, trJ, uFmt, uXf, uXi, gam_hf, gam_xc, tab_kin, trSs, trS, trE, trT, trX, pl, trA, trO, trC, trI, uBin_s, uUn_s, uVar_s, uC_s, getS, setS, uOp, uAdd, uSub, uMul, uDiv, uMod, uPow, uNeg, uCmp, uEqF, uLt, uLe, uGt, uGe, uIsF, isNonU, uTru, Blt.fn, uAbs, uMax2, uMin2, uInt, startU, gam_fn, gam_gl, tab_xcs, tab_sub, UD_nx, UD_rt, UD_bk, UD_ct, UD_ex, spAt, glAt, gls, List.map_cons, List.map_nil, List.cons_append, List.nil_append, List.length_cons, List.length_nil, List.replicate, Nat.reduceAdd, Nat.reduceSub, Nat.zero_add, reduceIte, Bool.false_eq_true, Bool.true_eq_false, Bool.false_bne, Bool.true_bne, Bool.not_true, Bool.not_false, Bool.not_not, List.reverse_cons, List.reverse_nil, Option.map_some, Option.map_none, up_same, uSet, atI_zero, atI_one, ixN_20, ixN_zero, List.set_cons_zero, uPow, t4__law_sound_text, t3__law_sound_text, trG]
  refine len_sq (.inl rfl) ?_
  simp only [inH_xc, inH_fn, inH_gl, trJ, uFmt, uXf, uXi, gam_hf, gam_xc, tab_kin, trSs, trS, trE, trT, trX, pl, trA, trO, trC, trI, uBin_s, uUn_s, uVar_s, uC_s, getS, setS, uOp, uAdd, uSub, uMul, uDiv, uMod, uPow, uNeg, uCmp, uEqF, uLt, uLe, uGt, uGe, uIsF, isNonU, uTru, Blt.fn, uAbs, uMax2, uMin2, uInt, startU, gam_fn, gam_gl, tab_xcs, tab_sub, UD_nx, UD_rt, UD_bk, UD_ct, UD_ex, spAt, glAt, gls, List.map_cons, List.map_nil, List.cons_append, List.nil_append, List.length_cons, List.length_nil, List.replicate, Nat.reduceAdd, Nat.reduceSub, Nat.zero_add, reduceIte, Bool.false_eq_true, Bool.true_eq_false, Bool.false_bne, Bool.true_bne, Bool.not_true, Bool.not_false, Bool.not_not, List.reverse_cons, List.reverse_nil, Option.map_some, Option.map_none, up_same, uSet, atI_zero, atI_one, ixN_20, ixN_zero, List.set_cons_zero, uPow, List.length_map]
  refine ⟨by unfold small62; omega, ?_⟩
  rw [Int.toNat_natCast]
  cases ws with
  | nil => exact ⟨trivial, fin_ _ _ _ L1 eW⟩
  | cons x r =>
    refine l_text hl hw _ r [] 1 x [sndL, TL.numL (x :: r).length] 0 _ G1 rfl (by decide) rfl (by simp only [List.length_cons, List.length_nil] at hl ⊢; omega) eW fun o2 o3 => ?_
    refine fin_ o2 o3 _ (fun a o e' => ?_) up_same
    by_cases z : a = W
    · subst z; rw [hW] at e'; cases e'
    · rw [up_ne z]; exact L1 a o e'
end K81
set_option Elab.async false
set_option linter.all false
set_option autoImplicit false
set_option maxRecDepth 100000
set_option maxHeartbeats 4000000
set_option pp.maxSteps 1500
set_option pp.deepTerms false
namespace K81
open PySem PySem.Spec L2 UL
/-! ### _law_read_sound -/
def optT : Option (List Int) → U
  | some ws => .tup (ws.map U.int)
  | none => .non
def sp__law_read_sound : USp := fun us G Q _ => ∃ l : List Nat, us = [.str (SX.S l)] ∧ l.length ≤ 1000000 ∧ ∀ G', Le G G' → Q (optT (readP l)) G'
def cl__law_read_sound : List (Str × USp) := [("_law_number", sp__law_number)]
theorem spl_ne {c : Nat} (hc : c < 256) (l : List Nat) : TL.spl [c] 0 [] l ≠ [] := fun z => by
  have := PyProof.Rows.split_pos (SX.S l) (SX.S [c])
  rw [split_1 hc, z] at this
  exact absurd this (by decide)
theorem head_dash (l : List Nat) : decide (SX.S (l.take 1) = Str.ofString "-") = decide (l.head? = some 45) := by
  rw [S_lit]
  refine decide_eq_decide.mpr ?_
  cases l with
  | nil => simp; decide
  | cons c r => simp; exact ⟨fun z => by have : [c] = [45] := z; simpa using this, fun z => by subst z; rfl⟩
def pairO (a b : List Nat) (ls : Nat) : Option (Int × Nat) := match numM (a.drop ls) 1048575, numM b 20000 with
  | some n, some m => if m = 0 ∨ (n = 0 ∧ ls = 1) then none else some ((n : Int) - 2 * n * ls, m)
  | _, _ => none
theorem own_pair {w a b : List Nat} {ls : Nat} (hw : TL.spl [42] 0 [] w = [a, b]) (hls : (ls = 1 ∧ a.head? = some 45) ∨ (ls = 0 ∧ a.head? ≠ some 45)) : ownS w = pairO a b ls := by
  have hwp : worthP a = match numM (a.drop ls) 1048575 with
      | some n => if n = 0 ∧ ls = 1 then none else some ((n : Int) - 2 * n * ls)
      | none => none := by
    unfold worthP numM
    rcases hls with ⟨rfl, h⟩ | ⟨rfl, h⟩
    · rw [if_pos h, show a.tail = a.drop 1 from List.drop_one.symm]
      unfold negP
      cases figs (a.drop 1) with
      | none => rfl
      | some n =>
        simp only
        by_cases h1 : 1048575 < n
        · rw [if_pos (.inr h1), if_pos h1]
        · rw [if_neg h1]
          simp only
          by_cases h0 : n = 0
          · rw [if_pos (.inl h0), if_pos ⟨h0, trivial⟩]
          · rw [if_neg (by omega), if_neg (fun z => h0 z.1)]
            exact congrArg some (by omega)
    · rw [if_neg h, List.drop_zero]
      unfold posP
      cases figs a with
      | none => rfl
      | some n =>
        simp only
        by_cases h1 : 1048575 < n
        · rw [if_pos h1, if_pos h1]
        · rw [if_neg h1, if_neg h1]
          simp only
          rw [if_neg (fun z => by cases z.2)]
          exact congrArg some (by omega)
  unfold ownS stretchP pairO
  rw [hw]
  show (match (match worthP a, figs b with
    | some w, some m => if m = 0 then none else some (w, m)
    | _, _ => none) with
    | some (x, m) => if 20000 < m then none else some (x, m)
    | none => none) = _
  rw [hwp]
  unfold numM
  cases figs (a.drop ls) with
  | none => rfl
  | some n =>
    by_cases h1 : 1048575 < n
    · simp only [h1, if_true]
    · simp only [h1, if_false]
      cases figs b with
      | none => by_cases h2 : n = 0 ∧ ls = 1 <;> simp only [h2, if_true, if_false, and_self]
      | some m =>
        by_cases h3 : 20000 < m
        · by_cases h2 : n = 0 ∧ ls = 1
          · simp only [h2, h3, if_true, and_self]
          · simp only [h2, h3, if_true, if_false]
            rw [if_neg (by omega)]
            simp only [h3, if_true]
        · by_cases h2 : n = 0 ∧ ls = 1
          · simp only [h2, h3, if_true, if_false, and_self, or_true]
          · simp only [h2, h3, if_false, or_false]
            by_cases h4 : m = 0
            · simp only [h4, if_true]
            · simp only [h4, if_false, h3]
theorem own_none {w : List Nat} (h : (TL.spl [42] 0 [] w).length ≠ 2) : ownS w = none := by
  unfold ownS stretchP pairP
  split
  · rename_i e
    split at e
    · rename_i a b e2
      exact absurd (by rw [e2]; rfl) h
    · cases e
  · rfl
theorem last_at {ws : List U} {u : U} (h : ws.getLast? = some u) : atI ws (-1) = some u := by
  have hn : ws ≠ [] := fun z => by subst z; cases h
  have hp := List.length_pos_iff.mpr hn
  rw [List.getLast?_eq_getElem?] at h
  unfold atI ixN
  rw [if_neg (by decide), if_pos (by omega)]
  show ws[((-1 : Int) + (ws.length : Int)).toNat]? = _
  rw [show ((-1 : Int) + (ws.length : Int)).toNat = ws.length - 1 by omega]
  exact h
theorem l_read2 {G0 : UH} {n : Nat} {r2 : Addr} {us0 : List U} {t0 t1 : Option U} (hr0 : G0 r2 = some (.lst us0)) (D : UE) : ∀ (ws : List (List Nat)) (acc : List Int) (W : Addr) (o3 o4 o5 o6 o7 : Option U) (G : UH), (∀ w ∈ ws, w.length ≤ 1000000) → acc.length ≤ 20000 → Le G0 G → G W = some (.lst (acc.map U.int)) →
    (goO n ws acc = none → ∀ G', Le G0 G' → D.rt .non G') →
    (∀ acc' W' o3 o4 o5 o6 o7 G', goO n ws acc = (if acc'.length = n then some acc' else none) → acc'.length ≤ 20000 → Le G0 G' → G' W' = some (.lst (acc'.map U.int)) → D.nx [t0, t1, some (.ref W'), o3, o4, o5, o6, o7] G') →
    forU [(r2, us0)] (trG (.nm 3)) (trSs (TB cl__law_read_sound) (GM cl__law_read_sound) l1__law_read_sound) D (wU ws) [t0, t1, some (.ref W), o3, o4, o5, o6, o7] G
  | [], acc, W, o3, o4, o5, o6, o7, G, hb, ha, l0, eW, hx, hq => ⟨⟨l0 _ _ hr0, trivial⟩, hq acc W _ _ _ _ _ G rfl ha l0 eW⟩
  | w :: ws, acc, W, o3, o4, o5, o6, o7, G, hb, ha, l0, eW, hx, hq => by
    have lg := line_ge
    have next := fun acc W o3 o4 o5 o6 o7 G => l_read2 (n := n) (t0 := t0) (t1 := t1) hr0 D ws acc W o3 o4 o5 o6 o7 G (fun x hx => hb x (List.mem_cons_of_mem _ hx))
    have hwl := hb w List.mem_cons_self
    refine ⟨⟨l0 _ _ hr0, trivial⟩, ?_⟩
    show _
    generalize forU _ _ _ D (wU ws) = T at next ⊢
    simp only [inH_xc, inH_fn, inH_gl, trJ, uFmt, uXf, uXi, gam_hf, gam_xc, tab_kin, trSs, trS, trE, trT, trX, pl, trA, trO, trC, trI, uBin_s, uUn_s, uVar_s, uC_s, getS, setS, uOp, uAdd, uSub, uMul, uDiv, uMod, uPow, uNeg, uCmp, uEqF, uLt, uLe, uGt, uGe, uIsF, isNonU, uTru, Blt.fn, uAbs, uMax2, uMin2, uInt, startU, gam_fn, gam_gl, tab_xcs, tab_sub, UD_nx, UD_rt, UD_bk, UD_ct, UD_ex, spAt, glAt, gls, List.map_cons, List.map_nil, List.cons_append, List.nil_append, List.length_cons, List.length_nil, List.replicate, Nat.reduceAdd, Nat.reduceSub, Nat.zero_add, reduceIte, Bool.false_eq_true, Bool.true_eq_false, Bool.false_bne, Bool.true_bne, Bool.not_true, Bool.not_false, Bool.not_not, List.reverse_cons, List.reverse_nil, Option.map_some, Option.map_none, up_same, uSet, atI_zero, atI_one, ixN_20, ixN_zero, List.set_cons_zero, uPow, trG, l1__law_read_sound, cl__law_read_sound, Mth.T, Mth.fn, mTy]
    rw [show Str.ofString "*" = SX.S [42] from rfl, split_1 (by decide)]
    refine ⟨trivial, rfl, by rw [SX.S_len]; omega, fun p hp => ?_⟩
    have hb2 := fun (x : List Nat) (hx : x ∈ TL.spl [42] 0 [] w) => spl_len (by decide) hx
    have hne := spl_ne (c := 42) (by decide) w
    obtain ⟨hs, hsp⟩ : ∃ hs, TL.spl [42] 0 [] w = hs := ⟨_, rfl⟩
    rw [hsp] at hb2 hne ⊢
    obtain ⟨a, tl, rfl⟩ : ∃ a tl, hs = a :: tl := by
      cases hs with
      | nil => exact absurd rfl hne
      | cons a tl => exact ⟨a, tl, rfl⟩
    have L1 := l0.trans (Le.new (o := .lst (wU (a :: tl))) hp)
    have e1 : SqU (UL.up G p (.lst (wU (a :: tl)))) (.ref p) (wU (a :: tl)) := .inr ⟨_, rfl, up_same⟩
    have eW1 : UL.up G p (.lst (wU (a :: tl))) W = _ := (Le.new (o := .lst (wU (a :: tl))) hp) _ _ eW
    generalize UL.up G p _ = G1 at L1 e1 eW1 ⊢
    have hal : a.length ≤ 1000000 := by have := hb2 a (by simp); omega
    simp only [inH_xc, inH_fn, inH_gl, trJ, uFmt, uXf, uXi, gam_hf, gam_xc, tab_kin, trSs, trS, trE, trT, trX, pl, trA, trO, trC, trI, uBin_s, uUn_s, uVar_s, uC_s, getS, setS, uOp, uAdd, uSub, uMul, uDiv, uMod, uPow, uNeg, uCmp, uEqF, uLt, uLe, uGt, uGe, uIsF, isNonU, uTru, Blt.fn, uAbs, uMax2, uMin2, uInt, startU, gam_fn, gam_gl, tab_xcs, tab_sub, UD_nx, UD_rt, UD_bk, UD_ct, UD_ex, spAt, glAt, gls, List.map_cons, List.map_nil, List.cons_append, List.nil_append, List.length_cons, List.length_nil, List.replicate, Nat.reduceAdd, Nat.reduceSub, Nat.zero_add, reduceIte, Bool.false_eq_true, Bool.true_eq_false, Bool.false_bne, Bool.true_bne, Bool.not_true, Bool.not_false, Bool.not_not, List.reverse_cons, List.reverse_nil, Option.map_some, Option.map_none, up_same, uSet, atI_zero, atI_one, ixN_20, ixN_zero, List.set_cons_zero, uPow, t6__law_read_sound, trG]
    refine ix_sq e1 atI_zero ?_
    simp only [inH_xc, inH_fn, inH_gl, trJ, uFmt, uXf, uXi, gam_hf, gam_xc, tab_kin, trSs, trS, trE, trT, trX, pl, trA, trO, trC, trI, uBin_s, uUn_s, uVar_s, uC_s, getS, setS, uOp, uAdd, uSub, uMul, uDiv, uMod, uPow, uNeg, uCmp, uEqF, uLt, uLe, uGt, uGe, uIsF, isNonU, uTru, Blt.fn, uAbs, uMax2, uMin2, uInt, startU, gam_fn, gam_gl, tab_xcs, tab_sub, UD_nx, UD_rt, UD_bk, UD_ct, UD_ex, spAt, glAt, gls, List.map_cons, List.map_nil, List.cons_append, List.nil_append, List.length_cons, List.length_nil, List.replicate, Nat.reduceAdd, Nat.reduceSub, Nat.zero_add, reduceIte, Bool.false_eq_true, Bool.true_eq_false, Bool.false_bne, Bool.true_bne, Bool.not_true, Bool.not_false, Bool.not_not, List.reverse_cons, List.reverse_nil, Option.map_some, Option.map_none, up_same, uSet, atI_zero, atI_one, ixN_20, ixN_zero, List.set_cons_zero, uPow, uSl]
    rw [show cutS (SX.S a) none (some 1) = SX.S (a.take 1) from cut_take a 1, head_dash]
    refine ⟨by rw [SX.S_len]; omega, ?_⟩
    obtain ⟨ls, hls, els⟩ : ∃ ls : Nat, ((ls = 1 ∧ a.head? = some 45) ∨ (ls = 0 ∧ a.head? ≠ some 45)) ∧ (if decide (a.head? = some 45) = true then (1 : Int) else 0) = (ls : Int) := by
      by_cases h : a.head? = some 45
      · exact ⟨1, .inl ⟨rfl, h⟩, by rw [decide_eq_true h]; rfl⟩
      · exact ⟨0, .inr ⟨rfl, h⟩, by rw [decide_eq_false h]; rfl⟩
    rw [els]
    simp only [inH_xc, inH_fn, inH_gl, trJ, uFmt, uXf, uXi, gam_hf, gam_xc, tab_kin, trSs, trS, trE, trT, trX, pl, trA, trO, trC, trI, uBin_s, uUn_s, uVar_s, uC_s, getS, setS, uOp, uAdd, uSub, uMul, uDiv, uMod, uPow, uNeg, uCmp, uEqF, uLt, uLe, uGt, uGe, uIsF, isNonU, uTru, Blt.fn, uAbs, uMax2, uMin2, uInt, startU, gam_fn, gam_gl, tab_xcs, tab_sub, UD_nx, UD_rt, UD_bk, UD_ct, UD_ex, spAt, glAt, gls, List.map_cons, List.map_nil, List.cons_append, List.nil_append, List.length_cons, List.length_nil, List.replicate, Nat.reduceAdd, Nat.reduceSub, Nat.zero_add, reduceIte, Bool.false_eq_true, Bool.true_eq_false, Bool.false_bne, Bool.true_bne, Bool.not_true, Bool.not_false, Bool.not_not, List.reverse_cons, List.reverse_nil, Option.map_some, Option.map_none, up_same, uSet, atI_zero, atI_one, ixN_20, ixN_zero, List.set_cons_zero, uPow, t5__law_read_sound, trG, cl__law_read_sound]
    refine ix_sq e1 atI_zero ?_
    simp only [inH_xc, inH_fn, inH_gl, trJ, uFmt, uXf, uXi, gam_hf, gam_xc, tab_kin, trSs, trS, trE, trT, trX, pl, trA, trO, trC, trI, uBin_s, uUn_s, uVar_s, uC_s, getS, setS, uOp, uAdd, uSub, uMul, uDiv, uMod, uPow, uNeg, uCmp, uEqF, uLt, uLe, uGt, uGe, uIsF, isNonU, uTru, Blt.fn, uAbs, uMax2, uMin2, uInt, startU, gam_fn, gam_gl, tab_xcs, tab_sub, UD_nx, UD_rt, UD_bk, UD_ct, UD_ex, spAt, glAt, gls, List.map_cons, List.map_nil, List.cons_append, List.nil_append, List.length_cons, List.length_nil, List.replicate, Nat.reduceAdd, Nat.reduceSub, Nat.zero_add, reduceIte, Bool.false_eq_true, Bool.true_eq_false, Bool.false_bne, Bool.true_bne, Bool.not_true, Bool.not_false, Bool.not_not, List.reverse_cons, List.reverse_nil, Option.map_some, Option.map_none, up_same, uSet, atI_zero, atI_one, ixN_20, ixN_zero, List.set_cons_zero, uPow, uSl]
    rw [cut_from a ls]
    refine ⟨by rw [SX.S_len]; omega, a.drop ls, 1048575, rfl, by rw [List.length_drop]; omega, ?_⟩
    simp only [inH_xc, inH_fn, inH_gl, trJ, uFmt, uXf, uXi, gam_hf, gam_xc, tab_kin, trSs, trS, trE, trT, trX, pl, trA, trO, trC, trI, uBin_s, uUn_s, uVar_s, uC_s, getS, setS, uOp, uAdd, uSub, uMul, uDiv, uMod, uPow, uNeg, uCmp, uEqF, uLt, uLe, uGt, uGe, uIsF, isNonU, uTru, Blt.fn, uAbs, uMax2, uMin2, uInt, startU, gam_fn, gam_gl, tab_xcs, tab_sub, UD_nx, UD_rt, UD_bk, UD_ct, UD_ex, spAt, glAt, gls, List.map_cons, List.map_nil, List.cons_append, List.nil_append, List.length_cons, List.length_nil, List.replicate, Nat.reduceAdd, Nat.reduceSub, Nat.zero_add, reduceIte, Bool.false_eq_true, Bool.true_eq_false, Bool.false_bne, Bool.true_bne, Bool.not_true, Bool.not_false, Bool.not_not, List.reverse_cons, List.reverse_nil, Option.map_some, Option.map_none, up_same, uSet, atI_zero, atI_one, ixN_20, ixN_zero, List.set_cons_zero, uPow, t4__law_read_sound, trG, cl__law_read_sound]
    obtain ⟨b, hbl⟩ : ∃ b, (a :: tl).getLast? = some b := ⟨_, List.getLast?_eq_some_getLast (by simp)⟩
    have hbm : b ∈ a :: tl := List.mem_of_getLast? hbl
    refine ix_sq e1 (last_at (u := .str (SX.S b)) (by rw [wU, List.getLast?_map, List.getLast?_map, hbl]; rfl)) ?_
    refine ⟨b, 20000, rfl, by have := hb2 b hbm; omega, ?_⟩
    simp only [inH_xc, inH_fn, inH_gl, trJ, uFmt, uXf, uXi, gam_hf, gam_xc, tab_kin, trSs, trS, trE, trT, trX, pl, trA, trO, trC, trI, uBin_s, uUn_s, uVar_s, uC_s, getS, setS, uOp, uAdd, uSub, uMul, uDiv, uMod, uPow, uNeg, uCmp, uEqF, uLt, uLe, uGt, uGe, uIsF, isNonU, uTru, Blt.fn, uAbs, uMax2, uMin2, uInt, startU, gam_fn, gam_gl, tab_xcs, tab_sub, UD_nx, UD_rt, UD_bk, UD_ct, UD_ex, spAt, glAt, gls, List.map_cons, List.map_nil, List.cons_append, List.nil_append, List.length_cons, List.length_nil, List.replicate, Nat.reduceAdd, Nat.reduceSub, Nat.zero_add, reduceIte, Bool.false_eq_true, Bool.true_eq_false, Bool.false_bne, Bool.true_bne, Bool.not_true, Bool.not_false, Bool.not_not, List.reverse_cons, List.reverse_nil, Option.map_some, Option.map_none, up_same, uSet, atI_zero, atI_one, ixN_20, ixN_zero, List.set_cons_zero, uPow, t3__law_read_sound]
    refine len_sq e1 ?_
    simp only [inH_xc, inH_fn, inH_gl, trJ, uFmt, uXf, uXi, gam_hf, gam_xc, tab_kin, trSs, trS, trE, trT, trX, pl, trA, trO, trC, trI, uBin_s, uUn_s, uVar_s, uC_s, getS, setS, uOp, uAdd, uSub, uMul, uDiv, uMod, uPow, uNeg, uCmp, uEqF, uLt, uLe, uGt, uGe, uIsF, isNonU, uTru, Blt.fn, uAbs, uMax2, uMin2, uInt, startU, gam_fn, gam_gl, tab_xcs, tab_sub, UD_nx, UD_rt, UD_bk, UD_ct, UD_ex, spAt, glAt, gls, List.map_cons, List.map_nil, List.cons_append, List.nil_append, List.length_cons, List.length_nil, List.replicate, Nat.reduceAdd, Nat.reduceSub, Nat.zero_add, reduceIte, Bool.false_eq_true, Bool.true_eq_false, Bool.false_bne, Bool.true_bne, Bool.not_true, Bool.not_false, Bool.not_not, List.reverse_cons, List.reverse_nil, Option.map_some, Option.map_none, up_same, uSet, atI_zero, atI_one, ixN_20, ixN_zero, List.set_cons_zero, uPow, List.length_map]
    by_cases h2 : (a :: tl).length = 2
    · obtain ⟨b', rfl⟩ : ∃ b', tl = [b'] := by
        match tl, h2 with
        | [b'], _ => exact ⟨b', rfl⟩
      have hbb : b = b' := by simpa using hbl.symm
      subst hbb
      have ho := own_pair hsp hls
      have hgo : goO n (w :: ws) acc = match pairO a b ls with
        | none => none
        | some (x, m) => if 20000 < acc.length + m then none else if acc.getLast? = some x then none else goO n ws (acc ++ List.replicate m x) := by simp only [goO, ho] <;> (cases pairO a b ls <;> rfl)
      rw [hgo] at hx hq
      unfold pairO at hx hq
      simp only [inH_xc, inH_fn, inH_gl, trJ, uFmt, uXf, uXi, gam_hf, gam_xc, tab_kin, trSs, trS, trE, trT, trX, pl, trA, trO, trC, trI, uBin_s, uUn_s, uVar_s, uC_s, getS, setS, uOp, uAdd, uSub, uMul, uDiv, uMod, uPow, uNeg, uCmp, uEqF, uLt, uLe, uGt, uGe, uIsF, isNonU, uTru, Blt.fn, uAbs, uMax2, uMin2, uInt, startU, gam_fn, gam_gl, tab_xcs, tab_sub, UD_nx, UD_rt, UD_bk, UD_ct, UD_ex, spAt, glAt, gls, List.map_cons, List.map_nil, List.cons_append, List.nil_append, List.length_cons, List.length_nil, List.replicate, Nat.reduceAdd, Nat.reduceSub, Nat.zero_add, reduceIte, Bool.false_eq_true, Bool.true_eq_false, Bool.false_bne, Bool.true_bne, Bool.not_true, Bool.not_false, Bool.not_not, List.reverse_cons, List.reverse_nil, Option.map_some, Option.map_none, up_same, uSet, atI_zero, atI_one, ixN_20, ixN_zero, List.set_cons_zero, uPow, show decide (((2 : Nat) : Int) = 2) = true from rfl]
      cases en : numM (a.drop ls) 1048575 with
      | none =>
        rw [en] at hx
        simp only [inH_xc, inH_fn, inH_gl, trJ, uFmt, uXf, uXi, gam_hf, gam_xc, tab_kin, trSs, trS, trE, trT, trX, pl, trA, trO, trC, trI, uBin_s, uUn_s, uVar_s, uC_s, getS, setS, uOp, uAdd, uSub, uMul, uDiv, uMod, uPow, uNeg, uCmp, uEqF, uLt, uLe, uGt, uGe, uIsF, isNonU, uTru, Blt.fn, uAbs, uMax2, uMin2, uInt, startU, gam_fn, gam_gl, tab_xcs, tab_sub, UD_nx, UD_rt, UD_bk, UD_ct, UD_ex, spAt, glAt, gls, List.map_cons, List.map_nil, List.cons_append, List.nil_append, List.length_cons, List.length_nil, List.replicate, Nat.reduceAdd, Nat.reduceSub, Nat.zero_add, reduceIte, Bool.false_eq_true, Bool.true_eq_false, Bool.false_bne, Bool.true_bne, Bool.not_true, Bool.not_false, Bool.not_not, List.reverse_cons, List.reverse_nil, Option.map_some, Option.map_none, up_same, uSet, atI_zero, atI_one, ixN_20, ixN_zero, List.set_cons_zero, uPow, optN, uIsF, isNonU]
        exact hx rfl G1 L1
      | some k =>
        cases em : numM b 20000 with
        | none =>
          rw [en, em] at hx
          simp only [inH_xc, inH_fn, inH_gl, trJ, uFmt, uXf, uXi, gam_hf, gam_xc, tab_kin, trSs, trS, trE, trT, trX, pl, trA, trO, trC, trI, uBin_s, uUn_s, uVar_s, uC_s, getS, setS, uOp, uAdd, uSub, uMul, uDiv, uMod, uPow, uNeg, uCmp, uEqF, uLt, uLe, uGt, uGe, uIsF, isNonU, uTru, Blt.fn, uAbs, uMax2, uMin2, uInt, startU, gam_fn, gam_gl, tab_xcs, tab_sub, UD_nx, UD_rt, UD_bk, UD_ct, UD_ex, spAt, glAt, gls, List.map_cons, List.map_nil, List.cons_append, List.nil_append, List.length_cons, List.length_nil, List.replicate, Nat.reduceAdd, Nat.reduceSub, Nat.zero_add, reduceIte, Bool.false_eq_true, Bool.true_eq_false, Bool.false_bne, Bool.true_bne, Bool.not_true, Bool.not_false, Bool.not_not, List.reverse_cons, List.reverse_nil, Option.map_some, Option.map_none, up_same, uSet, atI_zero, atI_one, ixN_20, ixN_zero, List.set_cons_zero, uPow, optN, uIsF, isNonU]
          exact hx rfl G1 L1
        | some m =>
          rw [en, em] at hx hq
          simp only at hx hq
          simp only [inH_xc, inH_fn, inH_gl, trJ, uFmt, uXf, uXi, gam_hf, gam_xc, tab_kin, trSs, trS, trE, trT, trX, pl, trA, trO, trC, trI, uBin_s, uUn_s, uVar_s, uC_s, getS, setS, uOp, uAdd, uSub, uMul, uDiv, uMod, uPow, uNeg, uCmp, uEqF, uLt, uLe, uGt, uGe, uIsF, isNonU, uTru, Blt.fn, uAbs, uMax2, uMin2, uInt, startU, gam_fn, gam_gl, tab_xcs, tab_sub, UD_nx, UD_rt, UD_bk, UD_ct, UD_ex, spAt, glAt, gls, List.map_cons, List.map_nil, List.cons_append, List.nil_append, List.length_cons, List.length_nil, List.replicate, Nat.reduceAdd, Nat.reduceSub, Nat.zero_add, reduceIte, Bool.false_eq_true, Bool.true_eq_false, Bool.false_bne, Bool.true_bne, Bool.not_true, Bool.not_false, Bool.not_not, List.reverse_cons, List.reverse_nil, Option.map_some, Option.map_none, up_same, uSet, atI_zero, atI_one, ixN_20, ixN_zero, List.set_cons_zero, uPow, optN, uIsF, isNonU]
          by_cases h0 : m = 0
          · rw [if_pos (.inl h0)] at hx
            simp only [inH_xc, inH_fn, inH_gl, trJ, uFmt, uXf, uXi, gam_hf, gam_xc, tab_kin, trSs, trS, trE, trT, trX, pl, trA, trO, trC, trI, uBin_s, uUn_s, uVar_s, uC_s, getS, setS, uOp, uAdd, uSub, uMul, uDiv, uMod, uPow, uNeg, uCmp, uEqF, uLt, uLe, uGt, uGe, uIsF, isNonU, uTru, Blt.fn, uAbs, uMax2, uMin2, uInt, startU, gam_fn, gam_gl, tab_xcs, tab_sub, UD_nx, UD_rt, UD_bk, UD_ct, UD_ex, spAt, glAt, gls, List.map_cons, List.map_nil, List.cons_append, List.nil_append, List.length_cons, List.length_nil, List.replicate, Nat.reduceAdd, Nat.reduceSub, Nat.zero_add, reduceIte, Bool.false_eq_true, Bool.true_eq_false, Bool.false_bne, Bool.true_bne, Bool.not_true, Bool.not_false, Bool.not_not, List.reverse_cons, List.reverse_nil, Option.map_some, Option.map_none, up_same, uSet, atI_zero, atI_one, ixN_20, ixN_zero, List.set_cons_zero, uPow, h0, show decide (((0 : Nat) : Int) = 0) = true from rfl]
            exact hx rfl G1 L1
          · simp only [inH_xc, inH_fn, inH_gl, trJ, uFmt, uXf, uXi, gam_hf, gam_xc, tab_kin, trSs, trS, trE, trT, trX, pl, trA, trO, trC, trI, uBin_s, uUn_s, uVar_s, uC_s, getS, setS, uOp, uAdd, uSub, uMul, uDiv, uMod, uPow, uNeg, uCmp, uEqF, uLt, uLe, uGt, uGe, uIsF, isNonU, uTru, Blt.fn, uAbs, uMax2, uMin2, uInt, startU, gam_fn, gam_gl, tab_xcs, tab_sub, UD_nx, UD_rt, UD_bk, UD_ct, UD_ex, spAt, glAt, gls, List.map_cons, List.map_nil, List.cons_append, List.nil_append, List.length_cons, List.length_nil, List.replicate, Nat.reduceAdd, Nat.reduceSub, Nat.zero_add, reduceIte, Bool.false_eq_true, Bool.true_eq_false, Bool.false_bne, Bool.true_bne, Bool.not_true, Bool.not_false, Bool.not_not, List.reverse_cons, List.reverse_nil, Option.map_some, Option.map_none, up_same, uSet, atI_zero, atI_one, ixN_20, ixN_zero, List.set_cons_zero, uPow, show decide ((m : Int) = 0) = false from decide_eq_false (by omega)]
            have rest : ¬ (k = 0 ∧ ls = 1) → trT (GM cl__law_read_sound) D.ex (.cmp .Gt (.bin .Add (.blt .len (.cons (.var 2) .nil)) (.var 7)) (.int 20000)) [t0, t1, some (.ref W), some (.str (SX.S w)), some (.ref p), some (.int ls), some (.int k), some (.int m)] G1 (fun kk G2 => if kk = true then D.rt .non G2
                else trSs (TB cl__law_read_sound) (GM cl__law_read_sound) t2__law_read_sound ⟨fun s2 G2 => ∃ G3, Le G3 G2 ∧ T s2 G3, D.rt, D.nx, fun s2 G2 => ∃ G3, Le G3 G2 ∧ T s2 G3, D.ex⟩ [t0, t1, some (.ref W), some (.str (SX.S w)), some (.ref p), some (.int ls), some (.int k), some (.int m)] G2) := by
              intro h3
              rw [if_neg (show ¬ (m = 0 ∨ (k = 0 ∧ ls = 1)) from fun z => z.elim h0 h3)] at hx hq
              simp only at hx hq
              simp only [inH_xc, inH_fn, inH_gl, trJ, uFmt, uXf, uXi, gam_hf, gam_xc, tab_kin, trSs, trS, trE, trT, trX, pl, trA, trO, trC, trI, uBin_s, uUn_s, uVar_s, uC_s, getS, setS, uOp, uAdd, uSub, uMul, uDiv, uMod, uPow, uNeg, uCmp, uEqF, uLt, uLe, uGt, uGe, uIsF, isNonU, uTru, Blt.fn, uAbs, uMax2, uMin2, uInt, startU, gam_fn, gam_gl, tab_xcs, tab_sub, UD_nx, UD_rt, UD_bk, UD_ct, UD_ex, spAt, glAt, gls, List.map_cons, List.map_nil, List.cons_append, List.nil_append, List.length_cons, List.length_nil, List.replicate, Nat.reduceAdd, Nat.reduceSub, Nat.zero_add, reduceIte, Bool.false_eq_true, Bool.true_eq_false, Bool.false_bne, Bool.true_bne, Bool.not_true, Bool.not_false, Bool.not_not, List.reverse_cons, List.reverse_nil, Option.map_some, Option.map_none, up_same, uSet, atI_zero, atI_one, ixN_20, ixN_zero, List.set_cons_zero, uPow]
              refine len_sq (.inr ⟨_, rfl, eW1⟩) ?_
              simp only [inH_xc, inH_fn, inH_gl, trJ, uFmt, uXf, uXi, gam_hf, gam_xc, tab_kin, trSs, trS, trE, trT, trX, pl, trA, trO, trC, trI, uBin_s, uUn_s, uVar_s, uC_s, getS, setS, uOp, uAdd, uSub, uMul, uDiv, uMod, uPow, uNeg, uCmp, uEqF, uLt, uLe, uGt, uGe, uIsF, isNonU, uTru, Blt.fn, uAbs, uMax2, uMin2, uInt, startU, gam_fn, gam_gl, tab_xcs, tab_sub, UD_nx, UD_rt, UD_bk, UD_ct, UD_ex, spAt, glAt, gls, List.map_cons, List.map_nil, List.cons_append, List.nil_append, List.length_cons, List.length_nil, List.replicate, Nat.reduceAdd, Nat.reduceSub, Nat.zero_add, reduceIte, Bool.false_eq_true, Bool.true_eq_false, Bool.false_bne, Bool.true_bne, Bool.not_true, Bool.not_false, Bool.not_not, List.reverse_cons, List.reverse_nil, Option.map_some, Option.map_none, up_same, uSet, atI_zero, atI_one, ixN_20, ixN_zero, List.set_cons_zero, uPow, List.length_map]
              by_cases h4 : 20000 < acc.length + m
              · rw [if_pos h4] at hx
                simp only [inH_xc, inH_fn, inH_gl, trJ, uFmt, uXf, uXi, gam_hf, gam_xc, tab_kin, trSs, trS, trE, trT, trX, pl, trA, trO, trC, trI, uBin_s, uUn_s, uVar_s, uC_s, getS, setS, uOp, uAdd, uSub, uMul, uDiv, uMod, uPow, uNeg, uCmp, uEqF, uLt, uLe, uGt, uGe, uIsF, isNonU, uTru, Blt.fn, uAbs, uMax2, uMin2, uInt, startU, gam_fn, gam_gl, tab_xcs, tab_sub, UD_nx, UD_rt, UD_bk, UD_ct, UD_ex, spAt, glAt, gls, List.map_cons, List.map_nil, List.cons_append, List.nil_append, List.length_cons, List.length_nil, List.replicate, Nat.reduceAdd, Nat.reduceSub, Nat.zero_add, reduceIte, Bool.false_eq_true, Bool.true_eq_false, Bool.false_bne, Bool.true_bne, Bool.not_true, Bool.not_false, Bool.not_not, List.reverse_cons, List.reverse_nil, Option.map_some, Option.map_none, up_same, uSet, atI_zero, atI_one, ixN_20, ixN_zero, List.set_cons_zero, uPow, show decide ((20000 : Int) < (acc.length : Int) + (m : Int)) = true from decide_eq_true (by omega)]
                exact hx rfl G1 L1
              · rw [if_neg h4] at hx hq
                simp only [inH_xc, inH_fn, inH_gl, trJ, uFmt, uXf, uXi, gam_hf, gam_xc, tab_kin, trSs, trS, trE, trT, trX, pl, trA, trO, trC, trI, uBin_s, uUn_s, uVar_s, uC_s, getS, setS, uOp, uAdd, uSub, uMul, uDiv, uMod, uPow, uNeg, uCmp, uEqF, uLt, uLe, uGt, uGe, uIsF, isNonU, uTru, Blt.fn, uAbs, uMax2, uMin2, uInt, startU, gam_fn, gam_gl, tab_xcs, tab_sub, UD_nx, UD_rt, UD_bk, UD_ct, UD_ex, spAt, glAt, gls, List.map_cons, List.map_nil, List.cons_append, List.nil_append, List.length_cons, List.length_nil, List.replicate, Nat.reduceAdd, Nat.reduceSub, Nat.zero_add, reduceIte, Bool.false_eq_true, Bool.true_eq_false, Bool.false_bne, Bool.true_bne, Bool.not_true, Bool.not_false, Bool.not_not, List.reverse_cons, List.reverse_nil, Option.map_some, Option.map_none, up_same, uSet, atI_zero, atI_one, ixN_20, ixN_zero, List.set_cons_zero, uPow, show decide ((20000 : Int) < (acc.length : Int) + (m : Int)) = false from decide_eq_false (by omega), t2__law_read_sound]
                refine ⟨by omega, fun e0 he0 => ?_⟩
                have L2 := Le.new (o := .lst []) he0
                have eW2 := L2 _ _ eW1
                have h00 : UL.up G1 e0 (.lst []) e0 = some (.lst (([] : List Int).map U.int)) := up_same
                generalize UL.up G1 e0 (.lst []) = G2 at L2 eW2 h00 ⊢
                rw [dOf_lst eW2, dOf_lst h00]
                refine ⟨shaped_lst _, shaped_lst _, ?_⟩
                rw [eqv_lst]
                have app : acc.getLast? ≠ some ((k : Int) - 2 * k * ls) → trSs (TB cl__law_read_sound) (GM cl__law_read_sound) t1__law_read_sound ⟨fun s2 G2 => ∃ G3, Le G3 G2 ∧ T s2 G3, D.rt, D.nx, fun s2 G2 => ∃ G3, Le G3 G2 ∧ T s2 G3, D.ex⟩ [t0, t1, some (.ref W), some (.str (SX.S w)), some (.ref p), some (.int ls), some (.int k), some (.int m)] G2 := by
                  intro h5
                  rw [if_neg h5] at hx hq
                  simp only [inH_xc, inH_fn, inH_gl, trJ, uFmt, uXf, uXi, gam_hf, gam_xc, tab_kin, trSs, trS, trE, trT, trX, pl, trA, trO, trC, trI, uBin_s, uUn_s, uVar_s, uC_s, getS, setS, uOp, uAdd, uSub, uMul, uDiv, uMod, uPow, uNeg, uCmp, uEqF, uLt, uLe, uGt, uGe, uIsF, isNonU, uTru, Blt.fn, uAbs, uMax2, uMin2, uInt, startU, gam_fn, gam_gl, tab_xcs, tab_sub, UD_nx, UD_rt, UD_bk, UD_ct, UD_ex, spAt, glAt, gls, List.map_cons, List.map_nil, List.cons_append, List.nil_append, List.length_cons, List.length_nil, List.replicate, Nat.reduceAdd, Nat.reduceSub, Nat.zero_add, reduceIte, Bool.false_eq_true, Bool.true_eq_false, Bool.false_bne, Bool.true_bne, Bool.not_true, Bool.not_false, Bool.not_not, List.reverse_cons, List.reverse_nil, Option.map_some, Option.map_none, up_same, uSet, atI_zero, atI_one, ixN_20, ixN_zero, List.set_cons_zero, uPow, t1__law_read_sound, trG]
                  refine ⟨mulL (by decide) (by decide), mulR (by omega) (by omega), by omega, fun p1 hp1 => ?_⟩
                  have L3 := Le.new (o := .lst [.int ((k : Int) - 2 * k * ls)]) hp1
                  have e3 : UL.up G2 p1 (.lst [.int ((k : Int) - 2 * k * ls)]) p1 = some (.lst [.int ((k : Int) - 2 * k * ls)]) := up_same
                  have eW3 := L3 _ _ eW2
                  generalize UL.up G2 p1 _ = G3 at L3 e3 eW3 ⊢
                  refine ⟨by omega, by omega, by omega, fun p2 hp2 => ?_⟩
                  rw [rep_ints]
                  have L4 := Le.new (o := .lst ((List.replicate m ((k : Int) - 2 * k * ls)).map U.int)) hp2
                  have e4 : UL.up G3 p2 (.lst ((List.replicate m ((k : Int) - 2 * k * ls)).map U.int)) p2 = some (.lst ((List.replicate m ((k : Int) - 2 * k * ls)).map U.int)) := up_same
                  have eW4 := L4 _ _ eW3
                  generalize UL.up G3 p2 _ = G4 at L4 e4 eW4 ⊢
                  simp only [inH_xc, inH_fn, inH_gl, trJ, uFmt, uXf, uXi, gam_hf, gam_xc, tab_kin, trSs, trS, trE, trT, trX, pl, trA, trO, trC, trI, uBin_s, uUn_s, uVar_s, uC_s, getS, setS, uOp, uAdd, uSub, uMul, uDiv, uMod, uPow, uNeg, uCmp, uEqF, uLt, uLe, uGt, uGe, uIsF, isNonU, uTru, Blt.fn, uAbs, uMax2, uMin2, uInt, startU, gam_fn, gam_gl, tab_xcs, tab_sub, UD_nx, UD_rt, UD_bk, UD_ct, UD_ex, spAt, glAt, gls, List.map_cons, List.map_nil, List.cons_append, List.nil_append, List.length_cons, List.length_nil, List.replicate, Nat.reduceAdd, Nat.reduceSub, Nat.zero_add, reduceIte, Bool.false_eq_true, Bool.true_eq_false, Bool.false_bne, Bool.true_bne, Bool.not_true, Bool.not_false, Bool.not_not, List.reverse_cons, List.reverse_nil, Option.map_some, Option.map_none, up_same, uSet, atI_zero, atI_one, ixN_20, ixN_zero, List.set_cons_zero, uPow, eW4, e4]
                  refine ⟨by simp only [List.length_map, List.length_replicate]; omega, fun p3 hp3 => ⟨_, .refl _, ?_⟩⟩
                  refine next (acc ++ List.replicate m ((k : Int) - 2 * k * ls)) p3 _ _ _ _ _ _ (by simp; omega) ((((L1.trans L2).trans L3).trans L4).trans (.new hp3)) ?_ hx hq
                  rw [up_same, List.map_append]
                cases ha2 : acc.getLast? with
                | none =>
                  have : acc = [] := List.getLast?_eq_none_iff.mp ha2
                  simp only [inH_xc, inH_fn, inH_gl, trJ, uFmt, uXf, uXi, gam_hf, gam_xc, tab_kin, trSs, trS, trE, trT, trX, pl, trA, trO, trC, trI, uBin_s, uUn_s, uVar_s, uC_s, getS, setS, uOp, uAdd, uSub, uMul, uDiv, uMod, uPow, uNeg, uCmp, uEqF, uLt, uLe, uGt, uGe, uIsF, isNonU, uTru, Blt.fn, uAbs, uMax2, uMin2, uInt, startU, gam_fn, gam_gl, tab_xcs, tab_sub, UD_nx, UD_rt, UD_bk, UD_ct, UD_ex, spAt, glAt, gls, List.map_cons, List.map_nil, List.cons_append, List.nil_append, List.length_cons, List.length_nil, List.replicate, Nat.reduceAdd, Nat.reduceSub, Nat.zero_add, reduceIte, Bool.false_eq_true, Bool.true_eq_false, Bool.false_bne, Bool.true_bne, Bool.not_true, Bool.not_false, Bool.not_not, List.reverse_cons, List.reverse_nil, Option.map_some, Option.map_none, up_same, uSet, atI_zero, atI_one, ixN_20, ixN_zero, List.set_cons_zero, uPow, decide_eq_true this]
                  exact app (by rw [ha2]; simp)
                | some y =>
                  have : acc ≠ [] := fun z => by rw [z] at ha2; cases ha2
                  simp only [inH_xc, inH_fn, inH_gl, trJ, uFmt, uXf, uXi, gam_hf, gam_xc, tab_kin, trSs, trS, trE, trT, trX, pl, trA, trO, trC, trI, uBin_s, uUn_s, uVar_s, uC_s, getS, setS, uOp, uAdd, uSub, uMul, uDiv, uMod, uPow, uNeg, uCmp, uEqF, uLt, uLe, uGt, uGe, uIsF, isNonU, uTru, Blt.fn, uAbs, uMax2, uMin2, uInt, startU, gam_fn, gam_gl, tab_xcs, tab_sub, UD_nx, UD_rt, UD_bk, UD_ct, UD_ex, spAt, glAt, gls, List.map_cons, List.map_nil, List.cons_append, List.nil_append, List.length_cons, List.length_nil, List.replicate, Nat.reduceAdd, Nat.reduceSub, Nat.zero_add, reduceIte, Bool.false_eq_true, Bool.true_eq_false, Bool.false_bne, Bool.true_bne, Bool.not_true, Bool.not_false, Bool.not_not, List.reverse_cons, List.reverse_nil, Option.map_some, Option.map_none, up_same, uSet, atI_zero, atI_one, ixN_20, ixN_zero, List.set_cons_zero, uPow, decide_eq_false this]
                  refine ix_sq (.inr ⟨_, rfl, eW2⟩) (last_at (u := .int y) (by rw [List.getLast?_map, ha2]; rfl)) ?_
                  simp only [inH_xc, inH_fn, inH_gl, trJ, uFmt, uXf, uXi, gam_hf, gam_xc, tab_kin, trSs, trS, trE, trT, trX, pl, trA, trO, trC, trI, uBin_s, uUn_s, uVar_s, uC_s, getS, setS, uOp, uAdd, uSub, uMul, uDiv, uMod, uPow, uNeg, uCmp, uEqF, uLt, uLe, uGt, uGe, uIsF, isNonU, uTru, Blt.fn, uAbs, uMax2, uMin2, uInt, startU, gam_fn, gam_gl, tab_xcs, tab_sub, UD_nx, UD_rt, UD_bk, UD_ct, UD_ex, spAt, glAt, gls, List.map_cons, List.map_nil, List.cons_append, List.nil_append, List.length_cons, List.length_nil, List.replicate, Nat.reduceAdd, Nat.reduceSub, Nat.zero_add, reduceIte, Bool.false_eq_true, Bool.true_eq_false, Bool.false_bne, Bool.true_bne, Bool.not_true, Bool.not_false, Bool.not_not, List.reverse_cons, List.reverse_nil, Option.map_some, Option.map_none, up_same, uSet, atI_zero, atI_one, ixN_20, ixN_zero, List.set_cons_zero, uPow]
                  refine ⟨mulL (by decide) (by decide), mulR (by omega) (by omega), ?_⟩
                  by_cases h5 : y = (k : Int) - 2 * k * ls
                  · simp only [inH_xc, inH_fn, inH_gl, trJ, uFmt, uXf, uXi, gam_hf, gam_xc, tab_kin, trSs, trS, trE, trT, trX, pl, trA, trO, trC, trI, uBin_s, uUn_s, uVar_s, uC_s, getS, setS, uOp, uAdd, uSub, uMul, uDiv, uMod, uPow, uNeg, uCmp, uEqF, uLt, uLe, uGt, uGe, uIsF, isNonU, uTru, Blt.fn, uAbs, uMax2, uMin2, uInt, startU, gam_fn, gam_gl, tab_xcs, tab_sub, UD_nx, UD_rt, UD_bk, UD_ct, UD_ex, spAt, glAt, gls, List.map_cons, List.map_nil, List.cons_append, List.nil_append, List.length_cons, List.length_nil, List.replicate, Nat.reduceAdd, Nat.reduceSub, Nat.zero_add, reduceIte, Bool.false_eq_true, Bool.true_eq_false, Bool.false_bne, Bool.true_bne, Bool.not_true, Bool.not_false, Bool.not_not, List.reverse_cons, List.reverse_nil, Option.map_some, Option.map_none, up_same, uSet, atI_zero, atI_one, ixN_20, ixN_zero, List.set_cons_zero, uPow, h5, decide_true]
                    exact hx (if_pos (by rw [ha2, h5])) G2 (L1.trans L2)
                  · simp only [inH_xc, inH_fn, inH_gl, trJ, uFmt, uXf, uXi, gam_hf, gam_xc, tab_kin, trSs, trS, trE, trT, trX, pl, trA, trO, trC, trI, uBin_s, uUn_s, uVar_s, uC_s, getS, setS, uOp, uAdd, uSub, uMul, uDiv, uMod, uPow, uNeg, uCmp, uEqF, uLt, uLe, uGt, uGe, uIsF, isNonU, uTru, Blt.fn, uAbs, uMax2, uMin2, uInt, startU, gam_fn, gam_gl, tab_xcs, tab_sub, UD_nx, UD_rt, UD_bk, UD_ct, UD_ex, spAt, glAt, gls, List.map_cons, List.map_nil, List.cons_append, List.nil_append, List.length_cons, List.length_nil, List.replicate, Nat.reduceAdd, Nat.reduceSub, Nat.zero_add, reduceIte, Bool.false_eq_true, Bool.true_eq_false, Bool.false_bne, Bool.true_bne, Bool.not_true, Bool.not_false, Bool.not_not, List.reverse_cons, List.reverse_nil, Option.map_some, Option.map_none, up_same, uSet, atI_zero, atI_one, ixN_20, ixN_zero, List.set_cons_zero, uPow, h5, decide_false]
                    exact app (by rw [ha2]; exact fun z => h5 (Option.some.inj z))
            by_cases h3 : k = 0
            · simp only [inH_xc, inH_fn, inH_gl, trJ, uFmt, uXf, uXi, gam_hf, gam_xc, tab_kin, trSs, trS, trE, trT, trX, pl, trA, trO, trC, trI, uBin_s, uUn_s, uVar_s, uC_s, getS, setS, uOp, uAdd, uSub, uMul, uDiv, uMod, uPow, uNeg, uCmp, uEqF, uLt, uLe, uGt, uGe, uIsF, isNonU, uTru, Blt.fn, uAbs, uMax2, uMin2, uInt, startU, gam_fn, gam_gl, tab_xcs, tab_sub, UD_nx, UD_rt, UD_bk, UD_ct, UD_ex, spAt, glAt, gls, List.map_cons, List.map_nil, List.cons_append, List.nil_append, List.length_cons, List.length_nil, List.replicate, Nat.reduceAdd, Nat.reduceSub, Nat.zero_add, reduceIte, Bool.false_eq_true, Bool.true_eq_false, Bool.false_bne, Bool.true_bne, Bool.not_true, Bool.not_false, Bool.not_not, List.reverse_cons, List.reverse_nil, Option.map_some, Option.map_none, up_same, uSet, atI_zero, atI_one, ixN_20, ixN_zero, List.set_cons_zero, uPow, h3, show decide (((0 : Nat) : Int) = 0) = true from rfl]
              by_cases h4 : ls = 1
              · simp only [inH_xc, inH_fn, inH_gl, trJ, uFmt, uXf, uXi, gam_hf, gam_xc, tab_kin, trSs, trS, trE, trT, trX, pl, trA, trO, trC, trI, uBin_s, uUn_s, uVar_s, uC_s, getS, setS, uOp, uAdd, uSub, uMul, uDiv, uMod, uPow, uNeg, uCmp, uEqF, uLt, uLe, uGt, uGe, uIsF, isNonU, uTru, Blt.fn, uAbs, uMax2, uMin2, uInt, startU, gam_fn, gam_gl, tab_xcs, tab_sub, UD_nx, UD_rt, UD_bk, UD_ct, UD_ex, spAt, glAt, gls, List.map_cons, List.map_nil, List.cons_append, List.nil_append, List.length_cons, List.length_nil, List.replicate, Nat.reduceAdd, Nat.reduceSub, Nat.zero_add, reduceIte, Bool.false_eq_true, Bool.true_eq_false, Bool.false_bne, Bool.true_bne, Bool.not_true, Bool.not_false, Bool.not_not, List.reverse_cons, List.reverse_nil, Option.map_some, Option.map_none, up_same, uSet, atI_zero, atI_one, ixN_20, ixN_zero, List.set_cons_zero, uPow, h4, show decide (((1 : Nat) : Int) = 1) = true from rfl]
                exact hx (by rw [if_pos (.inr ⟨h3, h4⟩)]) G1 L1
              · simp only [inH_xc, inH_fn, inH_gl, trJ, uFmt, uXf, uXi, gam_hf, gam_xc, tab_kin, trSs, trS, trE, trT, trX, pl, trA, trO, trC, trI, uBin_s, uUn_s, uVar_s, uC_s, getS, setS, uOp, uAdd, uSub, uMul, uDiv, uMod, uPow, uNeg, uCmp, uEqF, uLt, uLe, uGt, uGe, uIsF, isNonU, uTru, Blt.fn, uAbs, uMax2, uMin2, uInt, startU, gam_fn, gam_gl, tab_xcs, tab_sub, UD_nx, UD_rt, UD_bk, UD_ct, UD_ex, spAt, glAt, gls, List.map_cons, List.map_nil, List.cons_append, List.nil_append, List.length_cons, List.length_nil, List.replicate, Nat.reduceAdd, Nat.reduceSub, Nat.zero_add, reduceIte, Bool.false_eq_true, Bool.true_eq_false, Bool.false_bne, Bool.true_bne, Bool.not_true, Bool.not_false, Bool.not_not, List.reverse_cons, List.reverse_nil, Option.map_some, Option.map_none, up_same, uSet, atI_zero, atI_one, ixN_20, ixN_zero, List.set_cons_zero, uPow, show decide ((ls : Int) = 1) = false from decide_eq_false (by omega)]
                rw [h3] at rest
                exact rest (fun z => h4 z.2)
            · simp only [inH_xc, inH_fn, inH_gl, trJ, uFmt, uXf, uXi, gam_hf, gam_xc, tab_kin, trSs, trS, trE, trT, trX, pl, trA, trO, trC, trI, uBin_s, uUn_s, uVar_s, uC_s, getS, setS, uOp, uAdd, uSub, uMul, uDiv, uMod, uPow, uNeg, uCmp, uEqF, uLt, uLe, uGt, uGe, uIsF, isNonU, uTru, Blt.fn, uAbs, uMax2, uMin2, uInt, startU, gam_fn, gam_gl, tab_xcs, tab_sub, UD_nx, UD_rt, UD_bk, UD_ct, UD_ex, spAt, glAt, gls, List.map_cons, List.map_nil, List.cons_append, List.nil_append, List.length_cons, List.length_nil, List.replicate, Nat.reduceAdd, Nat.reduceSub, Nat.zero_add, reduceIte, Bool.false_eq_true, Bool.true_eq_false, Bool.false_bne, Bool.true_bne, Bool.not_true, Bool.not_false, Bool.not_not, List.reverse_cons, List.reverse_nil, Option.map_some, Option.map_none, up_same, uSet, atI_zero, atI_one, ixN_20, ixN_zero, List.set_cons_zero, uPow, show decide ((k : Int) = 0) = false from decide_eq_false (by omega)]
              exact rest (fun z => h3 z.1)
    · simp only [inH_xc, inH_fn, inH_gl, trJ, uFmt, uXf, uXi, gam_hf, gam_xc, tab_kin, trSs, trS, trE, trT, trX, pl, trA, trO, trC, trI, uBin_s, uUn_s, uVar_s, uC_s, getS, setS, uOp, uAdd, uSub, uMul, uDiv, uMod, uPow, uNeg, uCmp, uEqF, uLt, uLe, uGt, uGe, uIsF, isNonU, uTru, Blt.fn, uAbs, uMax2, uMin2, uInt, startU, gam_fn, gam_gl, tab_xcs, tab_sub, UD_nx, UD_rt, UD_bk, UD_ct, UD_ex, spAt, glAt, gls, List.map_cons, List.map_nil, List.cons_append, List.nil_append, List.length_cons, List.length_nil, List.replicate, Nat.reduceAdd, Nat.reduceSub, Nat.zero_add, reduceIte, Bool.false_eq_true, Bool.true_eq_false, Bool.false_bne, Bool.true_bne, Bool.not_true, Bool.not_false, Bool.not_not, List.reverse_cons, List.reverse_nil, Option.map_some, Option.map_none, up_same, uSet, atI_zero, atI_one, ixN_20, ixN_zero, List.set_cons_zero, uPow, show decide ((((a :: tl).length : Nat) : Int) = 2) = false from decide_eq_false (by omega), show decide (((tl.length + 1 : Nat) : Int) = 2) = false from decide_eq_false (by simp only [List.length_cons] at h2; omega)]
      exact hx (by simp only [goO, own_none (by rw [hsp]; exact h2)]) G1 L1
theorem readP_own (w0 w1 : List Nat) (ws : List (List Nat)) : wordsP (w0 :: w1 :: ws) = if w0 = sndL then (match numM w1 20000 with
    | some n => goO n ws []
    | none => none) else none := by
  unfold wordsP numM
  simp only
  by_cases h0 : w0 = sndL
  · rw [if_pos h0, if_pos h0]
    cases figs w1 with
    | none => rfl
    | some n =>
      simp only
      by_cases h1 : 20000 < n
      · rw [if_pos h1, if_pos h1]
      · rw [if_neg h1, if_neg h1]
        simp only
        exact (goO_goP (by omega) ws []).symm
  · rw [if_neg h0, if_neg h0]
theorem w__law_read_sound (us : List U) (G : UH) (Q : UK) (E : UXn → UH → Prop) (h : sp__law_read_sound us G Q E) : trSs (TB cl__law_read_sound) (GM cl__law_read_sound) b__law_read_sound (UD Q E) (startU n__law_read_sound us) G := by
  obtain ⟨l, rfl, hl, q⟩ := h
  have lg := line_ge
  simp only [inH_xc, inH_fn, inH_gl, trJ, uFmt, uXf, uXi, gam_hf, gam_xc, tab_kin, trSs, trS, trE, trT, trX, pl, trA, trO, trC, trI, uBin_s, uUn_s, uVar_s, uC_s, getS, setS, uOp, uAdd, uSub, uMul, uDiv, uMod, uPow, uNeg, uCmp, uEqF, uLt, uLe, uGt, uGe, uIsF, isNonU, uTru, Blt.fn, uAbs, uMax2, uMin2, uInt, startU, gam_fn, gam_gl, tab_xcs, tab_sub, UD_nx, UD_rt, UD_bk, UD_ct, UD_ex, spAt, glAt, gls, List.map_cons, List.map_nil, List.cons_append, List.nil_append, List.length_cons, List.length_nil, List.replicate, Nat.reduceAdd, Nat.reduceSub, Nat.zero_add, reduceIte, Bool.false_eq_true, Bool.true_eq_false, Bool.false_bne, Bool.true_bne, Bool.not_true, Bool.not_false, Bool.not_not, List.reverse_cons, List.reverse_nil, Option.map_some, Option.map_none, up_same, uSet, atI_zero, atI_one, ixN_20, ixN_zero, List.set_cons_zero, uPow, b__law_read_sound, n__law_read_sound, cl__law_read_sound, Mth.T, Mth.fn, mTy, trG]
  rw [show Str.ofString " " = SX.S [32] from rfl, split_1 (by decide)]
  refine ⟨trivial, rfl, by rw [SX.S_len]; omega, fun p hp => ?_⟩
  unfold readP at q
  have hb := fun (x : List Nat) (hx : x ∈ TL.spl [32] 0 [] l) => spl_len (by decide) hx
  generalize TL.spl [32] 0 [] l = ps at q hb ⊢
  have L1 := Le.new (o := .lst (wU ps)) hp
  have e1 : UL.up G p (.lst (wU ps)) p = some (.lst (wU ps)) := up_same
  generalize UL.up G p _ = G2 at L1 e1 ⊢
  simp only [inH_xc, inH_fn, inH_gl, trJ, uFmt, uXf, uXi, gam_hf, gam_xc, tab_kin, trSs, trS, trE, trT, trX, pl, trA, trO, trC, trI, uBin_s, uUn_s, uVar_s, uC_s, getS, setS, uOp, uAdd, uSub, uMul, uDiv, uMod, uPow, uNeg, uCmp, uEqF, uLt, uLe, uGt, uGe, uIsF, isNonU, uTru, Blt.fn, uAbs, uMax2, uMin2, uInt, startU, gam_fn, gam_gl, tab_xcs, tab_sub, UD_nx, UD_rt, UD_bk, UD_ct, UD_ex, spAt, glAt, gls, List.map_cons, List.map_nil, List.cons_append, List.nil_append, List.length_cons, List.length_nil, List.replicate, Nat.reduceAdd, Nat.reduceSub, Nat.zero_add, reduceIte, Bool.false_eq_true, Bool.true_eq_false, Bool.false_bne, Bool.true_bne, Bool.not_true, Bool.not_false, Bool.not_not, List.reverse_cons, List.reverse_nil, Option.map_some, Option.map_none, up_same, uSet, atI_zero, atI_one, ixN_20, ixN_zero, List.set_cons_zero, uPow, t11__law_read_sound, cl__law_read_sound]
  refine len_sq (.inr ⟨_, rfl, e1⟩) ?_
  simp only [inH_xc, inH_fn, inH_gl, trJ, uFmt, uXf, uXi, gam_hf, gam_xc, tab_kin, trSs, trS, trE, trT, trX, pl, trA, trO, trC, trI, uBin_s, uUn_s, uVar_s, uC_s, getS, setS, uOp, uAdd, uSub, uMul, uDiv, uMod, uPow, uNeg, uCmp, uEqF, uLt, uLe, uGt, uGe, uIsF, isNonU, uTru, Blt.fn, uAbs, uMax2, uMin2, uInt, startU, gam_fn, gam_gl, tab_xcs, tab_sub, UD_nx, UD_rt, UD_bk, UD_ct, UD_ex, spAt, glAt, gls, List.map_cons, List.map_nil, List.cons_append, List.nil_append, List.length_cons, List.length_nil, List.replicate, Nat.reduceAdd, Nat.reduceSub, Nat.zero_add, reduceIte, Bool.false_eq_true, Bool.true_eq_false, Bool.false_bne, Bool.true_bne, Bool.not_true, Bool.not_false, Bool.not_not, List.reverse_cons, List.reverse_nil, Option.map_some, Option.map_none, up_same, uSet, atI_zero, atI_one, ixN_20, ixN_zero, List.set_cons_zero, uPow, List.length_map]
  match ps, q, hb, e1 with
  | [], q, hb, e1 =>
    simp only [inH_xc, inH_fn, inH_gl, trJ, uFmt, uXf, uXi, gam_hf, gam_xc, tab_kin, trSs, trS, trE, trT, trX, pl, trA, trO, trC, trI, uBin_s, uUn_s, uVar_s, uC_s, getS, setS, uOp, uAdd, uSub, uMul, uDiv, uMod, uPow, uNeg, uCmp, uEqF, uLt, uLe, uGt, uGe, uIsF, isNonU, uTru, Blt.fn, uAbs, uMax2, uMin2, uInt, startU, gam_fn, gam_gl, tab_xcs, tab_sub, UD_nx, UD_rt, UD_bk, UD_ct, UD_ex, spAt, glAt, gls, List.map_cons, List.map_nil, List.cons_append, List.nil_append, List.length_cons, List.length_nil, List.replicate, Nat.reduceAdd, Nat.reduceSub, Nat.zero_add, reduceIte, Bool.false_eq_true, Bool.true_eq_false, Bool.false_bne, Bool.true_bne, Bool.not_true, Bool.not_false, Bool.not_not, List.reverse_cons, List.reverse_nil, Option.map_some, Option.map_none, up_same, uSet, atI_zero, atI_one, ixN_20, ixN_zero, List.set_cons_zero, uPow, show decide (((0 : Nat) : Int) < (2 : Int)) = true from rfl]
    exact fin.of (q G2 L1)
  | [w0], q, hb, e1 =>
    simp only [inH_xc, inH_fn, inH_gl, trJ, uFmt, uXf, uXi, gam_hf, gam_xc, tab_kin, trSs, trS, trE, trT, trX, pl, trA, trO, trC, trI, uBin_s, uUn_s, uVar_s, uC_s, getS, setS, uOp, uAdd, uSub, uMul, uDiv, uMod, uPow, uNeg, uCmp, uEqF, uLt, uLe, uGt, uGe, uIsF, isNonU, uTru, Blt.fn, uAbs, uMax2, uMin2, uInt, startU, gam_fn, gam_gl, tab_xcs, tab_sub, UD_nx, UD_rt, UD_bk, UD_ct, UD_ex, spAt, glAt, gls, List.map_cons, List.map_nil, List.cons_append, List.nil_append, List.length_cons, List.length_nil, List.replicate, Nat.reduceAdd, Nat.reduceSub, Nat.zero_add, reduceIte, Bool.false_eq_true, Bool.true_eq_false, Bool.false_bne, Bool.true_bne, Bool.not_true, Bool.not_false, Bool.not_not, List.reverse_cons, List.reverse_nil, Option.map_some, Option.map_none, up_same, uSet, atI_zero, atI_one, ixN_20, ixN_zero, List.set_cons_zero, uPow, show decide (((1 : Nat) : Int) < (2 : Int)) = true from rfl]
    exact fin.of (q G2 L1)
  | w0 :: w1 :: ws, q, hb, e1 =>
    have e1' : SqU G2 (.ref p) (U.str (SX.S w0) :: U.str (SX.S w1) :: wU ws) := .inr ⟨_, rfl, e1⟩
    rw [readP_own] at q
    simp only [inH_xc, inH_fn, inH_gl, trJ, uFmt, uXf, uXi, gam_hf, gam_xc, tab_kin, trSs, trS, trE, trT, trX, pl, trA, trO, trC, trI, uBin_s, uUn_s, uVar_s, uC_s, getS, setS, uOp, uAdd, uSub, uMul, uDiv, uMod, uPow, uNeg, uCmp, uEqF, uLt, uLe, uGt, uGe, uIsF, isNonU, uTru, Blt.fn, uAbs, uMax2, uMin2, uInt, startU, gam_fn, gam_gl, tab_xcs, tab_sub, UD_nx, UD_rt, UD_bk, UD_ct, UD_ex, spAt, glAt, gls, List.map_cons, List.map_nil, List.cons_append, List.nil_append, List.length_cons, List.length_nil, List.replicate, Nat.reduceAdd, Nat.reduceSub, Nat.zero_add, reduceIte, Bool.false_eq_true, Bool.true_eq_false, Bool.false_bne, Bool.true_bne, Bool.not_true, Bool.not_false, Bool.not_not, List.reverse_cons, List.reverse_nil, Option.map_some, Option.map_none, up_same, uSet, atI_zero, atI_one, ixN_20, ixN_zero, List.set_cons_zero, uPow, show decide (((ws.length + 1 + 1 : Nat) : Int) < (2 : Int)) = false from decide_eq_false (by omega)]
    refine ix_sq e1' atI_zero ?_
    simp only [inH_xc, inH_fn, inH_gl, trJ, uFmt, uXf, uXi, gam_hf, gam_xc, tab_kin, trSs, trS, trE, trT, trX, pl, trA, trO, trC, trI, uBin_s, uUn_s, uVar_s, uC_s, getS, setS, uOp, uAdd, uSub, uMul, uDiv, uMod, uPow, uNeg, uCmp, uEqF, uLt, uLe, uGt, uGe, uIsF, isNonU, uTru, Blt.fn, uAbs, uMax2, uMin2, uInt, startU, gam_fn, gam_gl, tab_xcs, tab_sub, UD_nx, UD_rt, UD_bk, UD_ct, UD_ex, spAt, glAt, gls, List.map_cons, List.map_nil, List.cons_append, List.nil_append, List.length_cons, List.length_nil, List.replicate, Nat.reduceAdd, Nat.reduceSub, Nat.zero_add, reduceIte, Bool.false_eq_true, Bool.true_eq_false, Bool.false_bne, Bool.true_bne, Bool.not_true, Bool.not_false, Bool.not_not, List.reverse_cons, List.reverse_nil, Option.map_some, Option.map_none, up_same, uSet, atI_zero, atI_one, ixN_20, ixN_zero, List.set_cons_zero, uPow, S_lit, show TL.tl (Str.ofString "sound") = sndL from rfl]
    by_cases h0 : w0 = sndL
    · rw [if_pos h0] at q
      simp only [inH_xc, inH_fn, inH_gl, trJ, uFmt, uXf, uXi, gam_hf, gam_xc, tab_kin, trSs, trS, trE, trT, trX, pl, trA, trO, trC, trI, uBin_s, uUn_s, uVar_s, uC_s, getS, setS, uOp, uAdd, uSub, uMul, uDiv, uMod, uPow, uNeg, uCmp, uEqF, uLt, uLe, uGt, uGe, uIsF, isNonU, uTru, Blt.fn, uAbs, uMax2, uMin2, uInt, startU, gam_fn, gam_gl, tab_xcs, tab_sub, UD_nx, UD_rt, UD_bk, UD_ct, UD_ex, spAt, glAt, gls, List.map_cons, List.map_nil, List.cons_append, List.nil_append, List.length_cons, List.length_nil, List.replicate, Nat.reduceAdd, Nat.reduceSub, Nat.zero_add, reduceIte, Bool.false_eq_true, Bool.true_eq_false, Bool.false_bne, Bool.true_bne, Bool.not_true, Bool.not_false, Bool.not_not, List.reverse_cons, List.reverse_nil, Option.map_some, Option.map_none, up_same, uSet, atI_zero, atI_one, ixN_20, ixN_zero, List.set_cons_zero, uPow, h0, decide_true]
      refine ix_sq e1' atI_one ?_
      refine ⟨w1, 20000, rfl, by have := hb w1 (by simp); omega, ?_⟩
      cases en : numM w1 20000 with
      | none =>
        rw [en] at q
        simp only [inH_xc, inH_fn, inH_gl, trJ, uFmt, uXf, uXi, gam_hf, gam_xc, tab_kin, trSs, trS, trE, trT, trX, pl, trA, trO, trC, trI, uBin_s, uUn_s, uVar_s, uC_s, getS, setS, uOp, uAdd, uSub, uMul, uDiv, uMod, uPow, uNeg, uCmp, uEqF, uLt, uLe, uGt, uGe, uIsF, isNonU, uTru, Blt.fn, uAbs, uMax2, uMin2, uInt, startU, gam_fn, gam_gl, tab_xcs, tab_sub, UD_nx, UD_rt, UD_bk, UD_ct, UD_ex, spAt, glAt, gls, List.map_cons, List.map_nil, List.cons_append, List.nil_append, List.length_cons, List.length_nil, List.replicate, Nat.reduceAdd, Nat.reduceSub, Nat.zero_add, reduceIte, Bool.false_eq_true, Bool.true_eq_false, Bool.false_bne, Bool.true_bne, Bool.not_true, Bool.not_false, Bool.not_not, List.reverse_cons, List.reverse_nil, Option.map_some, Option.map_none, up_same, uSet, atI_zero, atI_one, ixN_20, ixN_zero, List.set_cons_zero, uPow, optN, uIsF, isNonU]
        exact fin.of (q G2 L1)
      | some n =>
        rw [en] at q
        simp only at q
        simp only [inH_xc, inH_fn, inH_gl, trJ, uFmt, uXf, uXi, gam_hf, gam_xc, tab_kin, trSs, trS, trE, trT, trX, pl, trA, trO, trC, trI, uBin_s, uUn_s, uVar_s, uC_s, getS, setS, uOp, uAdd, uSub, uMul, uDiv, uMod, uPow, uNeg, uCmp, uEqF, uLt, uLe, uGt, uGe, uIsF, isNonU, uTru, Blt.fn, uAbs, uMax2, uMin2, uInt, startU, gam_fn, gam_gl, tab_xcs, tab_sub, UD_nx, UD_rt, UD_bk, UD_ct, UD_ex, spAt, glAt, gls, List.map_cons, List.map_nil, List.cons_append, List.nil_append, List.length_cons, List.length_nil, List.replicate, Nat.reduceAdd, Nat.reduceSub, Nat.zero_add, reduceIte, Bool.false_eq_true, Bool.true_eq_false, Bool.false_bne, Bool.true_bne, Bool.not_true, Bool.not_false, Bool.not_not, List.reverse_cons, List.reverse_nil, Option.map_some, Option.map_none, up_same, uSet, atI_zero, atI_one, ixN_20, ixN_zero, List.set_cons_zero, uPow, optN, uIsF, isNonU, t10__law_read_sound, trG]
        refine ⟨by omega, fun W hW => ?_⟩
        have L4 := Le.new (o := .lst []) hW
        have eW : UL.up G2 W (.lst []) W = some (.lst []) := up_same
        have e4 := L4 _ _ e1
        have L5 := L1.trans L4
        generalize UL.up G2 W (.lst []) = G4 at L5 eW e4 ⊢
        simp only [inH_xc, inH_fn, inH_gl, trJ, uFmt, uXf, uXi, gam_hf, gam_xc, tab_kin, trSs, trS, trE, trT, trX, pl, trA, trO, trC, trI, uBin_s, uUn_s, uVar_s, uC_s, getS, setS, uOp, uAdd, uSub, uMul, uDiv, uMod, uPow, uNeg, uCmp, uEqF, uLt, uLe, uGt, uGe, uIsF, isNonU, uTru, Blt.fn, uAbs, uMax2, uMin2, uInt, startU, gam_fn, gam_gl, tab_xcs, tab_sub, UD_nx, UD_rt, UD_bk, UD_ct, UD_ex, spAt, glAt, gls, List.map_cons, List.map_nil, List.cons_append, List.nil_append, List.length_cons, List.length_nil, List.replicate, Nat.reduceAdd, Nat.reduceSub, Nat.zero_add, reduceIte, Bool.false_eq_true, Bool.true_eq_false, Bool.false_bne, Bool.true_bne, Bool.not_true, Bool.not_false, Bool.not_not, List.reverse_cons, List.reverse_nil, Option.map_some, Option.map_none, up_same, uSet, atI_zero, atI_one, ixN_20, ixN_zero, List.set_cons_zero, uPow, t9__law_read_sound, uSl, e4]
        intro r2 hr2
        rw [show wU (w0 :: w1 :: ws) = U.str (SX.S w0) :: U.str (SX.S w1) :: wU ws from rfl, cutU2]
        have L6 := Le.new (o := .lst (wU ws)) hr2
        have b3 : UL.up G4 r2 (.lst (wU ws)) r2 = some (.lst (wU ws)) := up_same
        have b4 := L6 _ _ eW
        have b5 := L6 _ _ e4
        generalize UL.up G4 r2 (.lst (wU ws)) = G5 at L6 b3 b4 b5 ⊢
        unfold seqOf
        simp only [b3]
        refine l_read2 (G0 := G5) (n := n) b3 _ ws [] W _ _ _ _ _ G5 (fun w hw => by have := hb w (by simp [hw]); omega) (by simp) (.refl _) b4 (fun h G' l' => ?_) fun acc' W' o3 o4 o5 o6 o7 G' h hl' l' e' => ?_
        · rw [h] at q
          exact fin.of (q G' ((L5.trans L6).trans l'))
        · rw [h] at q
          have ei : PySem.intText? (SX.S w1) = some ((n : Nat) : Int) ∧ w1.length ≤ 7 := by
            unfold numM at en
            cases ef : figs w1 with
            | none => rw [ef] at en; cases en
            | some k =>
              rw [ef] at en
              simp only at en
              split at en
              · cases en
              · cases en
                obtain ⟨e2, e3⟩ := figs_inv ef
                refine ⟨?_, e3⟩
                rw [← e2]
                have := SX.int_S (a := TL.numL n) (dig_iff.mpr (TL.numL_digits n)) (TL.numL_ne n) (by rw [e2]; omega)
                rw [TL.numL_val] at this
                exact this
          simp only [inH_xc, inH_fn, inH_gl, trJ, uFmt, uXf, uXi, gam_hf, gam_xc, tab_kin, trSs, trS, trE, trT, trX, pl, trA, trO, trC, trI, uBin_s, uUn_s, uVar_s, uC_s, getS, setS, uOp, uAdd, uSub, uMul, uDiv, uMod, uPow, uNeg, uCmp, uEqF, uLt, uLe, uGt, uGe, uIsF, isNonU, uTru, Blt.fn, uAbs, uMax2, uMin2, uInt, startU, gam_fn, gam_gl, tab_xcs, tab_sub, UD_nx, UD_rt, UD_bk, UD_ct, UD_ex, spAt, glAt, gls, List.map_cons, List.map_nil, List.cons_append, List.nil_append, List.length_cons, List.length_nil, List.replicate, Nat.reduceAdd, Nat.reduceSub, Nat.zero_add, reduceIte, Bool.false_eq_true, Bool.true_eq_false, Bool.false_bne, Bool.true_bne, Bool.not_true, Bool.not_false, Bool.not_not, List.reverse_cons, List.reverse_nil, Option.map_some, Option.map_none, up_same, uSet, atI_zero, atI_one, ixN_20, ixN_zero, List.set_cons_zero, uPow, t8__law_read_sound]
          refine len_sq (.inr ⟨_, rfl, e'⟩) ?_
          simp only [inH_xc, inH_fn, inH_gl, trJ, uFmt, uXf, uXi, gam_hf, gam_xc, tab_kin, trSs, trS, trE, trT, trX, pl, trA, trO, trC, trI, uBin_s, uUn_s, uVar_s, uC_s, getS, setS, uOp, uAdd, uSub, uMul, uDiv, uMod, uPow, uNeg, uCmp, uEqF, uLt, uLe, uGt, uGe, uIsF, isNonU, uTru, Blt.fn, uAbs, uMax2, uMin2, uInt, startU, gam_fn, gam_gl, tab_xcs, tab_sub, UD_nx, UD_rt, UD_bk, UD_ct, UD_ex, spAt, glAt, gls, List.map_cons, List.map_nil, List.cons_append, List.nil_append, List.length_cons, List.length_nil, List.replicate, Nat.reduceAdd, Nat.reduceSub, Nat.zero_add, reduceIte, Bool.false_eq_true, Bool.true_eq_false, Bool.false_bne, Bool.true_bne, Bool.not_true, Bool.not_false, Bool.not_not, List.reverse_cons, List.reverse_nil, Option.map_some, Option.map_none, up_same, uSet, atI_zero, atI_one, ixN_20, ixN_zero, List.set_cons_zero, uPow, List.length_map]
          refine ix_sq (.inr ⟨_, rfl, l' _ _ b5⟩) atI_one ?_
          simp only [inH_xc, inH_fn, inH_gl, trJ, uFmt, uXf, uXi, gam_hf, gam_xc, tab_kin, trSs, trS, trE, trT, trX, pl, trA, trO, trC, trI, uBin_s, uUn_s, uVar_s, uC_s, getS, setS, uOp, uAdd, uSub, uMul, uDiv, uMod, uPow, uNeg, uCmp, uEqF, uLt, uLe, uGt, uGe, uIsF, isNonU, uTru, Blt.fn, uAbs, uMax2, uMin2, uInt, startU, gam_fn, gam_gl, tab_xcs, tab_sub, UD_nx, UD_rt, UD_bk, UD_ct, UD_ex, spAt, glAt, gls, List.map_cons, List.map_nil, List.cons_append, List.nil_append, List.length_cons, List.length_nil, List.replicate, Nat.reduceAdd, Nat.reduceSub, Nat.zero_add, reduceIte, Bool.false_eq_true, Bool.true_eq_false, Bool.false_bne, Bool.true_bne, Bool.not_true, Bool.not_false, Bool.not_not, List.reverse_cons, List.reverse_nil, Option.map_some, Option.map_none, up_same, uSet, atI_zero, atI_one, ixN_20, ixN_zero, List.set_cons_zero, uPow]
          simp only [ei.1]
          refine ⟨by rw [SX.S_len]; omega, ?_⟩
          by_cases hh : acc'.length = n
          · rw [if_pos hh] at q
            simp only [inH_xc, inH_fn, inH_gl, trJ, uFmt, uXf, uXi, gam_hf, gam_xc, tab_kin, trSs, trS, trE, trT, trX, pl, trA, trO, trC, trI, uBin_s, uUn_s, uVar_s, uC_s, getS, setS, uOp, uAdd, uSub, uMul, uDiv, uMod, uPow, uNeg, uCmp, uEqF, uLt, uLe, uGt, uGe, uIsF, isNonU, uTru, Blt.fn, uAbs, uMax2, uMin2, uInt, startU, gam_fn, gam_gl, tab_xcs, tab_sub, UD_nx, UD_rt, UD_bk, UD_ct, UD_ex, spAt, glAt, gls, List.map_cons, List.map_nil, List.cons_append, List.nil_append, List.length_cons, List.length_nil, List.replicate, Nat.reduceAdd, Nat.reduceSub, Nat.zero_add, reduceIte, Bool.false_eq_true, Bool.true_eq_false, Bool.false_bne, Bool.true_bne, Bool.not_true, Bool.not_false, Bool.not_not, List.reverse_cons, List.reverse_nil, Option.map_some, Option.map_none, up_same, uSet, atI_zero, atI_one, ixN_20, ixN_zero, List.set_cons_zero, uPow, show decide (((acc'.length : Nat) : Int) = (n : Int)) = true from decide_eq_true (by omega), t7__law_read_sound]
            unfold uTuple
            simp only [e']
            exact fin.of (q G' ((L5.trans L6).trans l'))
          · rw [if_neg hh] at q
            simp only [inH_xc, inH_fn, inH_gl, trJ, uFmt, uXf, uXi, gam_hf, gam_xc, tab_kin, trSs, trS, trE, trT, trX, pl, trA, trO, trC, trI, uBin_s, uUn_s, uVar_s, uC_s, getS, setS, uOp, uAdd, uSub, uMul, uDiv, uMod, uPow, uNeg, uCmp, uEqF, uLt, uLe, uGt, uGe, uIsF, isNonU, uTru, Blt.fn, uAbs, uMax2, uMin2, uInt, startU, gam_fn, gam_gl, tab_xcs, tab_sub, UD_nx, UD_rt, UD_bk, UD_ct, UD_ex, spAt, glAt, gls, List.map_cons, List.map_nil, List.cons_append, List.nil_append, List.length_cons, List.length_nil, List.replicate, Nat.reduceAdd, Nat.reduceSub, Nat.zero_add, reduceIte, Bool.false_eq_true, Bool.true_eq_false, Bool.false_bne, Bool.true_bne, Bool.not_true, Bool.not_false, Bool.not_not, List.reverse_cons, List.reverse_nil, Option.map_some, Option.map_none, up_same, uSet, atI_zero, atI_one, ixN_20, ixN_zero, List.set_cons_zero, uPow, show decide (((acc'.length : Nat) : Int) = (n : Int)) = false from decide_eq_false (by omega)]
            exact fin.of (q G' ((L5.trans L6).trans l'))
    · rw [if_neg h0] at q
      simp only [inH_xc, inH_fn, inH_gl, trJ, uFmt, uXf, uXi, gam_hf, gam_xc, tab_kin, trSs, trS, trE, trT, trX, pl, trA, trO, trC, trI, uBin_s, uUn_s, uVar_s, uC_s, getS, setS, uOp, uAdd, uSub, uMul, uDiv, uMod, uPow, uNeg, uCmp, uEqF, uLt, uLe, uGt, uGe, uIsF, isNonU, uTru, Blt.fn, uAbs, uMax2, uMin2, uInt, startU, gam_fn, gam_gl, tab_xcs, tab_sub, UD_nx, UD_rt, UD_bk, UD_ct, UD_ex, spAt, glAt, gls, List.map_cons, List.map_nil, List.cons_append, List.nil_append, List.length_cons, List.length_nil, List.replicate, Nat.reduceAdd, Nat.reduceSub, Nat.zero_add, reduceIte, Bool.false_eq_true, Bool.true_eq_false, Bool.false_bne, Bool.true_bne, Bool.not_true, Bool.not_false, Bool.not_not, List.reverse_cons, List.reverse_nil, Option.map_some, Option.map_none, up_same, uSet, atI_zero, atI_one, ixN_20, ixN_zero, List.set_cons_zero, uPow, h0, decide_false]
      exact fin.of (q G2 L1)
end K81
set_option Elab.async false
set_option linter.all false
set_option autoImplicit false
set_option maxRecDepth 100000
set_option maxHeartbeats 4000000
set_option pp.maxSteps 1500
set_option pp.deepTerms false
namespace K81
open PySem PySem.Spec L2 UL
/-! ### _law_heard -/
def sp__law_heard : USp := fun us G Q _ => ∃ l : List Nat, us = [.str (SX.S l)] ∧ l.length ≤ 1000000 ∧ l.all okc = true ∧ (∀ ws, readP l = some ws → ∀ G', Le G G' → Q (.tup (ws.map U.int)) G') ∧ (readP l = none → ∀ r G', Le G G' → G' r = some (.lst [.int 0, .bl true]) → Q (.ref r) G')
def cl__law_heard : List (Str × USp) := [("read_sound", sp_read_sound)]
theorem kin_ok : kin 1 "UseError" = some true ∧ kin 1 "SoundError" = some true ∧ kin 1 "ValueError" = some true := by decide
theorem w__law_heard (us : List U) (G : UH) (Q : UK) (E : UXn → UH → Prop) (h : sp__law_heard us G Q E) : trSs (TB cl__law_heard) (GM cl__law_heard) b__law_heard (UD Q E) (startU n__law_heard us) G := by
  obtain ⟨l, rfl, hl, hok, q1, q2⟩ := h
  have lg := line_ge
  obtain ⟨k1, k2, k3⟩ := kin_ok
  simp only [inH_xc, inH_fn, inH_gl, trJ, uFmt, uXf, uXi, gam_hf, gam_xc, tab_kin, trSs, trS, trE, trT, trX, pl, trA, trO, trC, trI, uBin_s, uUn_s, uVar_s, uC_s, getS, setS, uOp, uAdd, uSub, uMul, uDiv, uMod, uPow, uNeg, uCmp, uEqF, uLt, uLe, uGt, uGe, uIsF, isNonU, uTru, Blt.fn, uAbs, uMax2, uMin2, uInt, startU, gam_fn, gam_gl, tab_xcs, tab_sub, UD_nx, UD_rt, UD_bk, UD_ct, UD_ex, spAt, glAt, gls, List.map_cons, List.map_nil, List.cons_append, List.nil_append, List.length_cons, List.length_nil, List.replicate, Nat.reduceAdd, Nat.reduceSub, Nat.zero_add, reduceIte, Bool.false_eq_true, Bool.true_eq_false, Bool.false_bne, Bool.true_bne, Bool.not_true, Bool.not_false, Bool.not_not, List.reverse_cons, List.reverse_nil, Option.map_some, Option.map_none, up_same, uSet, atI_zero, atI_one, ixN_20, ixN_zero, List.set_cons_zero, uPow, b__law_heard, n__law_heard, cl__law_heard]
  refine ⟨_, rfl, rfl, (fun z => by cases z), fun z hz => ⟨l, (by cases hz; rfl), hl, hok, fun G1 l1 => ?_⟩⟩
  cases e : readP l with
  | some ws => exact fin.of (q1 ws e G1 l1)
  | none =>
    show (if sub 1 1 = true then _ else _)
    rw [if_pos (show sub 1 1 = true from rfl)]
    refine ⟨"BadText", ["row"], rfl, fun a dx ha hd ne => ?_⟩
    have L2 := l1.trans (Le.new (o := .xd ([Str.ofString "row"].zip xbt.snd)) hd)
    simp only [inH_xc, inH_fn, inH_gl, trJ, uFmt, uXf, uXi, gam_hf, gam_xc, tab_kin, trSs, trS, trE, trT, trX, pl, trA, trO, trC, trI, uBin_s, uUn_s, uVar_s, uC_s, getS, setS, uOp, uAdd, uSub, uMul, uDiv, uMod, uPow, uNeg, uCmp, uEqF, uLt, uLe, uGt, uGe, uIsF, isNonU, uTru, Blt.fn, uAbs, uMax2, uMin2, uInt, startU, gam_fn, gam_gl, tab_xcs, tab_sub, UD_nx, UD_rt, UD_bk, UD_ct, UD_ex, spAt, glAt, gls, List.map_cons, List.map_nil, List.cons_append, List.nil_append, List.length_cons, List.length_nil, List.replicate, Nat.reduceAdd, Nat.reduceSub, Nat.zero_add, reduceIte, Bool.false_eq_true, Bool.true_eq_false, Bool.false_bne, Bool.true_bne, Bool.not_true, Bool.not_false, Bool.not_not, List.reverse_cons, List.reverse_nil, Option.map_some, Option.map_none, up_same, uSet, atI_zero, atI_one, ixN_20, ixN_zero, List.set_cons_zero, uPow, show List.lookup (Str.ofString "row") ([Str.ofString "row"].zip xbt.snd) = some (U.int 0) from rfl, show kin xbt.fst (Str.ofString "UseError") = some true from k1, show kin xbt.fst (Str.ofString "SoundError") = some true from k2, show kin xbt.fst (Str.ofString "ValueError") = some true from k3, Option.bind_some, Option.isSome_some, true_and]
    generalize UL.up G1 dx _ = G2 at L2 ⊢
    refine ⟨by decide, ⟨_, rfl⟩, ⟨_, rfl⟩, ⟨_, rfl⟩, by omega, fun p hp => ?_⟩
    exact fin.of (q2 e p _ (L2.trans (.new hp)) up_same)
/-! ### _law_right -/
def sp__law_right : USp := fun us G Q _ => ∃ l : List Nat, us = [.str (SX.S l)] ∧ l.length ≤ 1000000 ∧ l.all okc = true ∧ ∀ G', Le G G' → Q (.bl true) G'
def cl__law_right : List (Str × USp) := [("_law_read_sound", sp__law_read_sound), ("_law_heard", sp__law_heard), ("_law_same", sp__law_same), ("show_sound", sp_show_sound)]
theorem isS_of {ws : List Int} (h : Wd1 ws) : isS (.tup (ws.map U.int)) = true := by
  simp only [isS]
  rw [List.all_eq_true]
  intro x hx
  obtain ⟨i, hi, rfl⟩ := List.mem_map.mp hx
  simp only [isW, Bool.and_eq_true, decide_eq_true_eq]
  exact h i hi
theorem okS_of {G : UH} (ws : List Int) : okS G (.tup (ws.map U.int)) := ⟨rfl, fun us e x hx => by cases e; obtain ⟨j, _, rfl⟩ := List.mem_map.mp hx; rfl⟩
theorem leaves (ws : List Int) : (ws.map U.int).all leafU = true := by
  rw [List.all_eq_true]
  intro x hx
  obtain ⟨j, _, rfl⟩ := List.mem_map.mp hx
  rfl
theorem isi_list {G : UH} {r : Addr} {us : List U} (e : G r = some (.lst us)) {Q : UK} (q : Q (.bl true) G) : uIsi [.ref r, .ty "list"] G Q := by
  unfold uIsi
  have : tyN G (.ref r) = some "list" := by unfold tyN; simp only [e]
  simp only [this]
  exact ⟨by decide, q⟩
theorem show_of {ws : List Int} {G : UH} {Q : UK} {E : UXn → UH → Prop} (hw : Wd1 ws) (hl : ws.length ≤ 20000) (q : ∀ G', Le G G' → Q (.str (SX.S (showL ws))) G') : sp_show_sound [.tup (ws.map U.int)] G Q E :=
  ⟨_, rfl, okS_of ws, (fun z => by rw [isS_of hw] at z; cases z), fun _ => ⟨ws, rfl, hw, hl, q⟩⟩
theorem w__law_right (us : List U) (G : UH) (Q : UK) (E : UXn → UH → Prop) (h : sp__law_right us G Q E) : trSs (TB cl__law_right) (GM cl__law_right) b__law_right (UD Q E) (startU n__law_right us) G := by
  obtain ⟨l, rfl, hl, hok, q⟩ := h
  have lg := line_ge
  simp only [inH_xc, inH_fn, inH_gl, trJ, uFmt, uXf, uXi, gam_hf, gam_xc, tab_kin, trSs, trS, trE, trT, trX, pl, trA, trO, trC, trI, uBin_s, uUn_s, uVar_s, uC_s, getS, setS, uOp, uAdd, uSub, uMul, uDiv, uMod, uPow, uNeg, uCmp, uEqF, uLt, uLe, uGt, uGe, uIsF, isNonU, uTru, Blt.fn, uAbs, uMax2, uMin2, uInt, startU, gam_fn, gam_gl, tab_xcs, tab_sub, UD_nx, UD_rt, UD_bk, UD_ct, UD_ex, spAt, glAt, gls, List.map_cons, List.map_nil, List.cons_append, List.nil_append, List.length_cons, List.length_nil, List.replicate, Nat.reduceAdd, Nat.reduceSub, Nat.zero_add, reduceIte, Bool.false_eq_true, Bool.true_eq_false, Bool.false_bne, Bool.true_bne, Bool.not_true, Bool.not_false, Bool.not_not, List.reverse_cons, List.reverse_nil, Option.map_some, Option.map_none, up_same, uSet, atI_zero, atI_one, ixN_20, ixN_zero, List.set_cons_zero, uPow, b__law_right, n__law_right, cl__law_right, trG]
  refine ⟨l, rfl, hl, fun G1 l1 => ?_⟩
  cases e : readP l with
  | none =>
    simp only [inH_xc, inH_fn, inH_gl, trJ, uFmt, uXf, uXi, gam_hf, gam_xc, tab_kin, trSs, trS, trE, trT, trX, pl, trA, trO, trC, trI, uBin_s, uUn_s, uVar_s, uC_s, getS, setS, uOp, uAdd, uSub, uMul, uDiv, uMod, uPow, uNeg, uCmp, uEqF, uLt, uLe, uGt, uGe, uIsF, isNonU, uTru, Blt.fn, uAbs, uMax2, uMin2, uInt, startU, gam_fn, gam_gl, tab_xcs, tab_sub, UD_nx, UD_rt, UD_bk, UD_ct, UD_ex, spAt, glAt, gls, List.map_cons, List.map_nil, List.cons_append, List.nil_append, List.length_cons, List.length_nil, List.replicate, Nat.reduceAdd, Nat.reduceSub, Nat.zero_add, reduceIte, Bool.false_eq_true, Bool.true_eq_false, Bool.false_bne, Bool.true_bne, Bool.not_true, Bool.not_false, Bool.not_not, List.reverse_cons, List.reverse_nil, Option.map_some, Option.map_none, up_same, uSet, atI_zero, atI_one, ixN_20, ixN_zero, List.set_cons_zero, uPow, optT, t3__law_right, trG, cl__law_right]
    refine ⟨l, rfl, hl, hok, (fun ws h => by rw [e] at h; cases h), fun _ r G2 l2 er => ?_⟩
    simp only [inH_xc, inH_fn, inH_gl, trJ, uFmt, uXf, uXi, gam_hf, gam_xc, tab_kin, trSs, trS, trE, trT, trX, pl, trA, trO, trC, trI, uBin_s, uUn_s, uVar_s, uC_s, getS, setS, uOp, uAdd, uSub, uMul, uDiv, uMod, uPow, uNeg, uCmp, uEqF, uLt, uLe, uGt, uGe, uIsF, isNonU, uTru, Blt.fn, uAbs, uMax2, uMin2, uInt, startU, gam_fn, gam_gl, tab_xcs, tab_sub, UD_nx, UD_rt, UD_bk, UD_ct, UD_ex, spAt, glAt, gls, List.map_cons, List.map_nil, List.cons_append, List.nil_append, List.length_cons, List.length_nil, List.replicate, Nat.reduceAdd, Nat.reduceSub, Nat.zero_add, reduceIte, Bool.false_eq_true, Bool.true_eq_false, Bool.false_bne, Bool.true_bne, Bool.not_true, Bool.not_false, Bool.not_not, List.reverse_cons, List.reverse_nil, Option.map_some, Option.map_none, up_same, uSet, atI_zero, atI_one, ixN_20, ixN_zero, List.set_cons_zero, uPow, t2__law_right, cl__law_right, uIsF, isNonU]
    refine isi_list er ?_
    simp only [inH_xc, inH_fn, inH_gl, trJ, uFmt, uXf, uXi, gam_hf, gam_xc, tab_kin, trSs, trS, trE, trT, trX, pl, trA, trO, trC, trI, uBin_s, uUn_s, uVar_s, uC_s, getS, setS, uOp, uAdd, uSub, uMul, uDiv, uMod, uPow, uNeg, uCmp, uEqF, uLt, uLe, uGt, uGe, uIsF, isNonU, uTru, Blt.fn, uAbs, uMax2, uMin2, uInt, startU, gam_fn, gam_gl, tab_xcs, tab_sub, UD_nx, UD_rt, UD_bk, UD_ct, UD_ex, spAt, glAt, gls, List.map_cons, List.map_nil, List.cons_append, List.nil_append, List.length_cons, List.length_nil, List.replicate, Nat.reduceAdd, Nat.reduceSub, Nat.zero_add, reduceIte, Bool.false_eq_true, Bool.true_eq_false, Bool.false_bne, Bool.true_bne, Bool.not_true, Bool.not_false, Bool.not_not, List.reverse_cons, List.reverse_nil, Option.map_some, Option.map_none, up_same, uSet, atI_zero, atI_one, ixN_20, ixN_zero, List.set_cons_zero, uPow]
    refine ix_sq (.inr ⟨_, rfl, er⟩) atI_zero ?_
    refine ⟨_, rfl, .inl rfl, ?_⟩
    simp only [inH_xc, inH_fn, inH_gl, trJ, uFmt, uXf, uXi, gam_hf, gam_xc, tab_kin, trSs, trS, trE, trT, trX, pl, trA, trO, trC, trI, uBin_s, uUn_s, uVar_s, uC_s, getS, setS, uOp, uAdd, uSub, uMul, uDiv, uMod, uPow, uNeg, uCmp, uEqF, uLt, uLe, uGt, uGe, uIsF, isNonU, uTru, Blt.fn, uAbs, uMax2, uMin2, uInt, startU, gam_fn, gam_gl, tab_xcs, tab_sub, UD_nx, UD_rt, UD_bk, UD_ct, UD_ex, spAt, glAt, gls, List.map_cons, List.map_nil, List.cons_append, List.nil_append, List.length_cons, List.length_nil, List.replicate, Nat.reduceAdd, Nat.reduceSub, Nat.zero_add, reduceIte, Bool.false_eq_true, Bool.true_eq_false, Bool.false_bne, Bool.true_bne, Bool.not_true, Bool.not_false, Bool.not_not, List.reverse_cons, List.reverse_nil, Option.map_some, Option.map_none, up_same, uSet, atI_zero, atI_one, ixN_20, ixN_zero, List.set_cons_zero, uPow]
    refine ix_sq (.inr ⟨_, rfl, er⟩) atI_one ?_
    exact fin.of (q G2 (l1.trans l2))
  | some ws =>
    obtain ⟨es, hw, hwl⟩ := show_read e
    simp only [inH_xc, inH_fn, inH_gl, trJ, uFmt, uXf, uXi, gam_hf, gam_xc, tab_kin, trSs, trS, trE, trT, trX, pl, trA, trO, trC, trI, uBin_s, uUn_s, uVar_s, uC_s, getS, setS, uOp, uAdd, uSub, uMul, uDiv, uMod, uPow, uNeg, uCmp, uEqF, uLt, uLe, uGt, uGe, uIsF, isNonU, uTru, Blt.fn, uAbs, uMax2, uMin2, uInt, startU, gam_fn, gam_gl, tab_xcs, tab_sub, UD_nx, UD_rt, UD_bk, UD_ct, UD_ex, spAt, glAt, gls, List.map_cons, List.map_nil, List.cons_append, List.nil_append, List.length_cons, List.length_nil, List.replicate, Nat.reduceAdd, Nat.reduceSub, Nat.zero_add, reduceIte, Bool.false_eq_true, Bool.true_eq_false, Bool.false_bne, Bool.true_bne, Bool.not_true, Bool.not_false, Bool.not_not, List.reverse_cons, List.reverse_nil, Option.map_some, Option.map_none, up_same, uSet, atI_zero, atI_one, ixN_20, ixN_zero, List.set_cons_zero, uPow, optT, t3__law_right, trG, cl__law_right]
    refine ⟨l, rfl, hl, hok, fun ws' h G2 l2 => ?_, fun h => by rw [e] at h; cases h⟩
    rw [e] at h
    cases h
    simp only [inH_xc, inH_fn, inH_gl, trJ, uFmt, uXf, uXi, gam_hf, gam_xc, tab_kin, trSs, trS, trE, trT, trX, pl, trA, trO, trC, trI, uBin_s, uUn_s, uVar_s, uC_s, getS, setS, uOp, uAdd, uSub, uMul, uDiv, uMod, uPow, uNeg, uCmp, uEqF, uLt, uLe, uGt, uGe, uIsF, isNonU, uTru, Blt.fn, uAbs, uMax2, uMin2, uInt, startU, gam_fn, gam_gl, tab_xcs, tab_sub, UD_nx, UD_rt, UD_bk, UD_ct, UD_ex, spAt, glAt, gls, List.map_cons, List.map_nil, List.cons_append, List.nil_append, List.length_cons, List.length_nil, List.replicate, Nat.reduceAdd, Nat.reduceSub, Nat.zero_add, reduceIte, Bool.false_eq_true, Bool.true_eq_false, Bool.false_bne, Bool.true_bne, Bool.not_true, Bool.not_false, Bool.not_not, List.reverse_cons, List.reverse_nil, Option.map_some, Option.map_none, up_same, uSet, atI_zero, atI_one, ixN_20, ixN_zero, List.set_cons_zero, uPow, t2__law_right, cl__law_right, uIsF, isNonU, t1__law_right]
    refine ⟨_, rfl, .inr ⟨_, rfl, leaves ws, by rw [List.length_map]; omega⟩, ?_⟩
    simp only [inH_xc, inH_fn, inH_gl, trJ, uFmt, uXf, uXi, gam_hf, gam_xc, tab_kin, trSs, trS, trE, trT, trX, pl, trA, trO, trC, trI, uBin_s, uUn_s, uVar_s, uC_s, getS, setS, uOp, uAdd, uSub, uMul, uDiv, uMod, uPow, uNeg, uCmp, uEqF, uLt, uLe, uGt, uGe, uIsF, isNonU, uTru, Blt.fn, uAbs, uMax2, uMin2, uInt, startU, gam_fn, gam_gl, tab_xcs, tab_sub, UD_nx, UD_rt, UD_bk, UD_ct, UD_ex, spAt, glAt, gls, List.map_cons, List.map_nil, List.cons_append, List.nil_append, List.length_cons, List.length_nil, List.replicate, Nat.reduceAdd, Nat.reduceSub, Nat.zero_add, reduceIte, Bool.false_eq_true, Bool.true_eq_false, Bool.false_bne, Bool.true_bne, Bool.not_true, Bool.not_false, Bool.not_not, List.reverse_cons, List.reverse_nil, Option.map_some, Option.map_none, up_same, uSet, atI_zero, atI_one, ixN_20, ixN_zero, List.set_cons_zero, uPow]
    refine len_sq (.inl rfl) ?_
    simp only [inH_xc, inH_fn, inH_gl, trJ, uFmt, uXf, uXi, gam_hf, gam_xc, tab_kin, trSs, trS, trE, trT, trX, pl, trA, trO, trC, trI, uBin_s, uUn_s, uVar_s, uC_s, getS, setS, uOp, uAdd, uSub, uMul, uDiv, uMod, uPow, uNeg, uCmp, uEqF, uLt, uLe, uGt, uGe, uIsF, isNonU, uTru, Blt.fn, uAbs, uMax2, uMin2, uInt, startU, gam_fn, gam_gl, tab_xcs, tab_sub, UD_nx, UD_rt, UD_bk, UD_ct, UD_ex, spAt, glAt, gls, List.map_cons, List.map_nil, List.cons_append, List.nil_append, List.length_cons, List.length_nil, List.replicate, Nat.reduceAdd, Nat.reduceSub, Nat.zero_add, reduceIte, Bool.false_eq_true, Bool.true_eq_false, Bool.false_bne, Bool.true_bne, Bool.not_true, Bool.not_false, Bool.not_not, List.reverse_cons, List.reverse_nil, Option.map_some, Option.map_none, up_same, uSet, atI_zero, atI_one, ixN_20, ixN_zero, List.set_cons_zero, uPow, List.length_map]
    by_cases h4 : 4000 < ws.length
    · simp only [inH_xc, inH_fn, inH_gl, trJ, uFmt, uXf, uXi, gam_hf, gam_xc, tab_kin, trSs, trS, trE, trT, trX, pl, trA, trO, trC, trI, uBin_s, uUn_s, uVar_s, uC_s, getS, setS, uOp, uAdd, uSub, uMul, uDiv, uMod, uPow, uNeg, uCmp, uEqF, uLt, uLe, uGt, uGe, uIsF, isNonU, uTru, Blt.fn, uAbs, uMax2, uMin2, uInt, startU, gam_fn, gam_gl, tab_xcs, tab_sub, UD_nx, UD_rt, UD_bk, UD_ct, UD_ex, spAt, glAt, gls, List.map_cons, List.map_nil, List.cons_append, List.nil_append, List.length_cons, List.length_nil, List.replicate, Nat.reduceAdd, Nat.reduceSub, Nat.zero_add, reduceIte, Bool.false_eq_true, Bool.true_eq_false, Bool.false_bne, Bool.true_bne, Bool.not_true, Bool.not_false, Bool.not_not, List.reverse_cons, List.reverse_nil, Option.map_some, Option.map_none, up_same, uSet, atI_zero, atI_one, ixN_20, ixN_zero, List.set_cons_zero, uPow, show decide ((4000 : Int) < ((ws.length : Nat) : Int)) = true from decide_eq_true (by omega)]
      exact fin.of (q G2 (l1.trans l2))
    · simp only [inH_xc, inH_fn, inH_gl, trJ, uFmt, uXf, uXi, gam_hf, gam_xc, tab_kin, trSs, trS, trE, trT, trX, pl, trA, trO, trC, trI, uBin_s, uUn_s, uVar_s, uC_s, getS, setS, uOp, uAdd, uSub, uMul, uDiv, uMod, uPow, uNeg, uCmp, uEqF, uLt, uLe, uGt, uGe, uIsF, isNonU, uTru, Blt.fn, uAbs, uMax2, uMin2, uInt, startU, gam_fn, gam_gl, tab_xcs, tab_sub, UD_nx, UD_rt, UD_bk, UD_ct, UD_ex, spAt, glAt, gls, List.map_cons, List.map_nil, List.cons_append, List.nil_append, List.length_cons, List.length_nil, List.replicate, Nat.reduceAdd, Nat.reduceSub, Nat.zero_add, reduceIte, Bool.false_eq_true, Bool.true_eq_false, Bool.false_bne, Bool.true_bne, Bool.not_true, Bool.not_false, Bool.not_not, List.reverse_cons, List.reverse_nil, Option.map_some, Option.map_none, up_same, uSet, atI_zero, atI_one, ixN_20, ixN_zero, List.set_cons_zero, uPow, show decide ((4000 : Int) < ((ws.length : Nat) : Int)) = false from decide_eq_false (by omega)]
      refine show_of hw hwl fun G3 l3 => ?_
      rw [es]
      refine ⟨_, rfl, .inl rfl, ?_⟩
      exact fin.of (q G3 ((l1.trans l2).trans l3))
/-! ### _law_refuses -/
def sp__law_refuses : USp := fun us G Q _ => ∃ u b, us = [u, .bl b] ∧ okS G u ∧ (if b = true then isS u = false else kS u = false) ∧ ∀ G', Le G G' → Q (.bl true) G'
def cl__law_refuses : List (Str × USp) := [("show_sound", sp_show_sound), ("read_sound", sp_read_sound)]
def hc__law_refuses : List (Str × USp) := [("_law_same", sp__law_same)]
theorem w__law_refuses (us : List U) (G : UH) (Q : UK) (E : UXn → UH → Prop) (h : sp__law_refuses us G Q E) : trSs (TB cl__law_refuses hc__law_refuses) (GM cl__law_refuses hc__law_refuses) b__law_refuses (UD Q E) (startU n__law_refuses us) G := by
  obtain ⟨u, b, rfl, hok, hb, q⟩ := h
  have lg := line_ge
  cases b with
  | true =>
    simp only [inH_xc, inH_fn, inH_gl, trJ, uFmt, uXf, uXi, gam_hf, gam_xc, tab_kin, trSs, trS, trE, trT, trX, pl, trA, trO, trC, trI, uBin_s, uUn_s, uVar_s, uC_s, getS, setS, uOp, uAdd, uSub, uMul, uDiv, uMod, uPow, uNeg, uCmp, uEqF, uLt, uLe, uGt, uGe, uIsF, isNonU, uTru, Blt.fn, uAbs, uMax2, uMin2, uInt, startU, gam_fn, gam_gl, tab_xcs, tab_sub, UD_nx, UD_rt, UD_bk, UD_ct, UD_ex, spAt, glAt, gls, List.map_cons, List.map_nil, List.cons_append, List.nil_append, List.length_cons, List.length_nil, List.replicate, Nat.reduceAdd, Nat.reduceSub, Nat.zero_add, reduceIte, Bool.false_eq_true, Bool.true_eq_false, Bool.false_bne, Bool.true_bne, Bool.not_true, Bool.not_false, Bool.not_not, List.reverse_cons, List.reverse_nil, Option.map_some, Option.map_none, up_same, uSet, atI_zero, atI_one, ixN_20, ixN_zero, List.set_cons_zero, uPow, b__law_refuses, n__law_refuses, cl__law_refuses, hc__law_refuses]
    refine ⟨u, rfl, hok, fun _ => ?_, fun z => by rw [show isS u = false from hb] at z; cases z⟩
    show (if sub 0 0 = true then _ else _)
    rw [if_pos (show sub 0 0 = true from rfl)]
    refine ⟨"NotUsable", ["at", "word"], rfl, fun a dx ha hd ne => ?_⟩
    have L2 := Le.new (o := .xd ([Str.ofString "at", Str.ofString "word"].zip (xnu (Str.ofString "sound")).snd)) hd
    simp only [inH_xc, inH_fn, inH_gl, trJ, uFmt, uXf, uXi, gam_hf, gam_xc, tab_kin, trSs, trS, trE, trT, trX, pl, trA, trO, trC, trI, uBin_s, uUn_s, uVar_s, uC_s, getS, setS, uOp, uAdd, uSub, uMul, uDiv, uMod, uPow, uNeg, uCmp, uEqF, uLt, uLe, uGt, uGe, uIsF, isNonU, uTru, Blt.fn, uAbs, uMax2, uMin2, uInt, startU, gam_fn, gam_gl, tab_xcs, tab_sub, UD_nx, UD_rt, UD_bk, UD_ct, UD_ex, spAt, glAt, gls, List.map_cons, List.map_nil, List.cons_append, List.nil_append, List.length_cons, List.length_nil, List.replicate, Nat.reduceAdd, Nat.reduceSub, Nat.zero_add, reduceIte, Bool.false_eq_true, Bool.true_eq_false, Bool.false_bne, Bool.true_bne, Bool.not_true, Bool.not_false, Bool.not_not, List.reverse_cons, List.reverse_nil, Option.map_some, Option.map_none, up_same, uSet, atI_zero, atI_one, ixN_20, ixN_zero, List.set_cons_zero, uPow, show List.lookup (Str.ofString "word") ([Str.ofString "at", Str.ofString "word"].zip (xnu (Str.ofString "sound")).snd) = some (U.str (Str.ofString "sound")) from rfl, show List.lookup (Str.ofString "at") ([Str.ofString "at", Str.ofString "word"].zip (xnu (Str.ofString "sound")).snd) = some (U.int (-1)) from rfl, Option.isSome_some, true_and]
    generalize UL.up G dx _ = G2 at L2 ⊢
    refine ⟨by decide, by decide, by omega, by omega, fun p hp => ?_⟩
    refine ix_sq (.inr ⟨_, rfl, up_same⟩) atI_one ?_
    refine ⟨by omega, _, rfl, .inr ⟨_, rfl, rfl, by decide⟩, ?_⟩
    exact fin.of (q _ (L2.trans (.new hp)))
  | false =>
    simp only [inH_xc, inH_fn, inH_gl, trJ, uFmt, uXf, uXi, gam_hf, gam_xc, tab_kin, trSs, trS, trE, trT, trX, pl, trA, trO, trC, trI, uBin_s, uUn_s, uVar_s, uC_s, getS, setS, uOp, uAdd, uSub, uMul, uDiv, uMod, uPow, uNeg, uCmp, uEqF, uLt, uLe, uGt, uGe, uIsF, isNonU, uTru, Blt.fn, uAbs, uMax2, uMin2, uInt, startU, gam_fn, gam_gl, tab_xcs, tab_sub, UD_nx, UD_rt, UD_bk, UD_ct, UD_ex, spAt, glAt, gls, List.map_cons, List.map_nil, List.cons_append, List.nil_append, List.length_cons, List.length_nil, List.replicate, Nat.reduceAdd, Nat.reduceSub, Nat.zero_add, reduceIte, Bool.false_eq_true, Bool.true_eq_false, Bool.false_bne, Bool.true_bne, Bool.not_true, Bool.not_false, Bool.not_not, List.reverse_cons, List.reverse_nil, Option.map_some, Option.map_none, up_same, uSet, atI_zero, atI_one, ixN_20, ixN_zero, List.set_cons_zero, uPow, b__law_refuses, n__law_refuses, cl__law_refuses, hc__law_refuses]
    refine ⟨u, rfl, hok.1, fun _ => ?_, fun z hz => by subst hz; cases (show kS (.str z) = false from hb)⟩
    show (if sub 0 0 = true then _ else _)
    rw [if_pos (show sub 0 0 = true from rfl)]
    refine ⟨"NotUsable", ["at", "word"], rfl, fun a dx ha hd ne => ?_⟩
    have L2 := Le.new (o := .xd ([Str.ofString "at", Str.ofString "word"].zip (xnu (Str.ofString "text")).snd)) hd
    simp only [inH_xc, inH_fn, inH_gl, trJ, uFmt, uXf, uXi, gam_hf, gam_xc, tab_kin, trSs, trS, trE, trT, trX, pl, trA, trO, trC, trI, uBin_s, uUn_s, uVar_s, uC_s, getS, setS, uOp, uAdd, uSub, uMul, uDiv, uMod, uPow, uNeg, uCmp, uEqF, uLt, uLe, uGt, uGe, uIsF, isNonU, uTru, Blt.fn, uAbs, uMax2, uMin2, uInt, startU, gam_fn, gam_gl, tab_xcs, tab_sub, UD_nx, UD_rt, UD_bk, UD_ct, UD_ex, spAt, glAt, gls, List.map_cons, List.map_nil, List.cons_append, List.nil_append, List.length_cons, List.length_nil, List.replicate, Nat.reduceAdd, Nat.reduceSub, Nat.zero_add, reduceIte, Bool.false_eq_true, Bool.true_eq_false, Bool.false_bne, Bool.true_bne, Bool.not_true, Bool.not_false, Bool.not_not, List.reverse_cons, List.reverse_nil, Option.map_some, Option.map_none, up_same, uSet, atI_zero, atI_one, ixN_20, ixN_zero, List.set_cons_zero, uPow, show List.lookup (Str.ofString "word") ([Str.ofString "at", Str.ofString "word"].zip (xnu (Str.ofString "text")).snd) = some (U.str (Str.ofString "text")) from rfl, show List.lookup (Str.ofString "at") ([Str.ofString "at", Str.ofString "word"].zip (xnu (Str.ofString "text")).snd) = some (U.int (-1)) from rfl, Option.isSome_some, true_and]
    generalize UL.up G dx _ = G2 at L2 ⊢
    refine ⟨by decide, by decide, by omega, by omega, fun p hp => ?_⟩
    refine ix_sq (.inr ⟨_, rfl, up_same⟩) atI_zero ?_
    refine ⟨by omega, _, rfl, .inr ⟨_, rfl, rfl, by decide⟩, ?_⟩
    exact fin.of (q _ (L2.trans (.new hp)))
end K81
set_option Elab.async false
set_option linter.all false
set_option autoImplicit false
set_option maxRecDepth 100000
set_option maxHeartbeats 4000000
set_option pp.maxSteps 1500
set_option pp.deepTerms false
namespace K81
open PySem PySem.Spec L2 UL
/-! ### _law_sound -/
def sp__law_sound : USp := fun us G Q _ => ∃ p g, us = [.ref p] ∧ Dk G p g ∧ ∀ (ws : List Int) G', Wd1 ws → ws.length ≤ 4000 → Dk G' p g → Fr p g G G' → Q (.tup (ws.map U.int)) G'
def cl__law_sound : List (Str × USp) := [("_law_take", sp__law_take), ("_law_pick", sp__law_pick)]
theorem l_sound {p g S : Addr} (hp : p ≠ S) (hg : g ≠ S) {G0 : UH} (D : UE) {m : Option U} (q : ∀ (ws : List Int) o3 o4 G', Wd1 ws → ws.length ≤ 4000 → Dk G' p g → Fr p g G0 G' → G' S = some (.lst (ws.map U.int)) → D.nx [some (.ref p), m, some (.ref S), o3, o4] G') (hS : G0 S = none) :
    ∀ (ys : List U) (ws : List Int) (w : Int) (o4 : Option U) (G : UH), Wd1 (w :: ws) → ws.length + ys.length ≤ 4000 → Dk G p g → Fr p g G0 G → G S = some (.lst (ws.map U.int)) →
    forU [] (trG (.nm 4)) (trSs (TB cl__law_sound) (GM cl__law_sound) l1__law_sound) D ys [some (.ref p), m, some (.ref S), some (.int w), o4] G
  | [], ws, w, o4, G, hw, hl, hD, f, eS => ⟨trivial, q ws _ _ G (fun x hx => hw x (List.mem_cons_of_mem _ hx)) (by simpa using hl) hD f eS⟩
  | y :: ys, ws, w, o4, G, hw, hl, hD, f, eS => by
    have lg := line_ge
    simp only [List.length_cons] at hl
    obtain ⟨w1, w2⟩ := hw w (by simp)
    have next := fun ws w o4 G => l_sound hp hg D q hS ys ws w o4 G
    refine ⟨trivial, ?_⟩
    show _
    generalize forU _ _ _ D ys = T at next ⊢
    have app : ∀ (w' : Int) G1, -1048575 ≤ w' ∧ w' ≤ 1048575 → Dk G1 p g → Fr p g G G1 → trSs (TB cl__law_sound) (GM cl__law_sound) t1__law_sound ⟨fun s2 G2 => ∃ G3, Le G3 G2 ∧ T s2 G3, D.rt, D.nx, fun s2 G2 => ∃ G3, Le G3 G2 ∧ T s2 G3, D.ex⟩ [some (.ref p), m, some (.ref S), some (.int w'), some y] G1 := by
      intro w' G1 hw' hD1 f1
      have eS1 := f1 _ _ hp.symm hg.symm eS
      simp only [inH_xc, inH_fn, inH_gl, trJ, uFmt, uXf, uXi, gam_hf, gam_xc, tab_kin, trSs, trS, trE, trT, trX, pl, trA, trO, trC, trI, uBin_s, uUn_s, uVar_s, uC_s, getS, setS, uOp, uAdd, uSub, uMul, uDiv, uMod, uPow, uNeg, uCmp, uEqF, uLt, uLe, uGt, uGe, uIsF, isNonU, uTru, Blt.fn, uAbs, uMax2, uMin2, uInt, startU, gam_fn, gam_gl, tab_xcs, tab_sub, UD_nx, UD_rt, UD_bk, UD_ct, UD_ex, spAt, glAt, gls, List.map_cons, List.map_nil, List.cons_append, List.nil_append, List.length_cons, List.length_nil, List.replicate, Nat.reduceAdd, Nat.reduceSub, Nat.zero_add, reduceIte, Bool.false_eq_true, Bool.true_eq_false, Bool.false_bne, Bool.true_bne, Bool.not_true, Bool.not_false, Bool.not_not, List.reverse_cons, List.reverse_nil, Option.map_some, Option.map_none, up_same, uSet, atI_zero, atI_one, ixN_20, ixN_zero, List.set_cons_zero, uPow, t1__law_sound, Mth.T, Mth.fn, mTy, uL, eS1]
      refine ⟨trivial, by rw [List.length_map]; omega, _, .refl _, ?_⟩
      refine next (ws ++ [w']) w' _ _ (fun x hx => ?_) (by simp; omega) (hD1.upn hp hg) (fun a o n1 n2 e => ?_) (by rw [up_same, List.map_append]; rfl)
      · simp only [List.mem_cons, List.mem_append, List.mem_nil_iff, or_false] at hx
        rcases hx with rfl | hx | rfl
        · exact hw'
        · exact hw x (List.mem_cons_of_mem _ hx)
        · exact hw'
      · rw [up_ne (fun z => by subst z; rw [hS] at e; cases e)]
        exact f1 _ _ n1 n2 (f _ _ n1 n2 e)
    simp only [inH_xc, inH_fn, inH_gl, trJ, uFmt, uXf, uXi, gam_hf, gam_xc, tab_kin, trSs, trS, trE, trT, trX, pl, trA, trO, trC, trI, uBin_s, uUn_s, uVar_s, uC_s, getS, setS, uOp, uAdd, uSub, uMul, uDiv, uMod, uPow, uNeg, uCmp, uEqF, uLt, uLe, uGt, uGe, uIsF, isNonU, uTru, Blt.fn, uAbs, uMax2, uMin2, uInt, startU, gam_fn, gam_gl, tab_xcs, tab_sub, UD_nx, UD_rt, UD_bk, UD_ct, UD_ex, spAt, glAt, gls, List.map_cons, List.map_nil, List.cons_append, List.nil_append, List.length_cons, List.length_nil, List.replicate, Nat.reduceAdd, Nat.reduceSub, Nat.zero_add, reduceIte, Bool.false_eq_true, Bool.true_eq_false, Bool.false_bne, Bool.true_bne, Bool.not_true, Bool.not_false, Bool.not_not, List.reverse_cons, List.reverse_nil, Option.map_some, Option.map_none, up_same, uSet, atI_zero, atI_one, ixN_20, ixN_zero, List.set_cons_zero, uPow, trG, l1__law_sound, cl__law_sound]
    refine ⟨p, g, 3, rfl, hD, by decide, by decide, fun r G1 r0 r1 hD1 f1 => ?_⟩
    simp only [inH_xc, inH_fn, inH_gl, trJ, uFmt, uXf, uXi, gam_hf, gam_xc, tab_kin, trSs, trS, trE, trT, trX, pl, trA, trO, trC, trI, uBin_s, uUn_s, uVar_s, uC_s, getS, setS, uOp, uAdd, uSub, uMul, uDiv, uMod, uPow, uNeg, uCmp, uEqF, uLt, uLe, uGt, uGe, uIsF, isNonU, uTru, Blt.fn, uAbs, uMax2, uMin2, uInt, startU, gam_fn, gam_gl, tab_xcs, tab_sub, UD_nx, UD_rt, UD_bk, UD_ct, UD_ex, spAt, glAt, gls, List.map_cons, List.map_nil, List.cons_append, List.nil_append, List.length_cons, List.length_nil, List.replicate, Nat.reduceAdd, Nat.reduceSub, Nat.zero_add, reduceIte, Bool.false_eq_true, Bool.true_eq_false, Bool.false_bne, Bool.true_bne, Bool.not_true, Bool.not_false, Bool.not_not, List.reverse_cons, List.reverse_nil, Option.map_some, Option.map_none, up_same, uSet, atI_zero, atI_one, ixN_20, ixN_zero, List.set_cons_zero, uPow]
    by_cases h : r = 0
    · simp only [inH_xc, inH_fn, inH_gl, trJ, uFmt, uXf, uXi, gam_hf, gam_xc, tab_kin, trSs, trS, trE, trT, trX, pl, trA, trO, trC, trI, uBin_s, uUn_s, uVar_s, uC_s, getS, setS, uOp, uAdd, uSub, uMul, uDiv, uMod, uPow, uNeg, uCmp, uEqF, uLt, uLe, uGt, uGe, uIsF, isNonU, uTru, Blt.fn, uAbs, uMax2, uMin2, uInt, startU, gam_fn, gam_gl, tab_xcs, tab_sub, UD_nx, UD_rt, UD_bk, UD_ct, UD_ex, spAt, glAt, gls, List.map_cons, List.map_nil, List.cons_append, List.nil_append, List.length_cons, List.length_nil, List.replicate, Nat.reduceAdd, Nat.reduceSub, Nat.zero_add, reduceIte, Bool.false_eq_true, Bool.true_eq_false, Bool.false_bne, Bool.true_bne, Bool.not_true, Bool.not_false, Bool.not_not, List.reverse_cons, List.reverse_nil, Option.map_some, Option.map_none, up_same, uSet, atI_zero, atI_one, ixN_20, ixN_zero, List.set_cons_zero, uPow, h, decide_true]
      refine ⟨p, g, 21, rfl, hD1, by decide, by decide, fun r2 G2 r20 r21 hD2 f2 => ?_⟩
      refine ⟨by omega, fun rr hrr => ?_⟩
      have n3 := hD2.ne hrr
      refine ⟨p, g, rr, [.int 0, .int 1048575, .int (-1048575), .int (-w), .int (r2 - 10)], rfl, hD2.le (.new hrr), ⟨up_same, n3.1, n3.2⟩, by simp, by simp, fun i u G3 hu hD3 f3 => ?_⟩
      obtain ⟨w', rfl, h1, h2⟩ : ∃ w', u = .int w' ∧ -1048575 ≤ w' ∧ w' ≤ 1048575 := by
        have hm := List.mem_of_getElem? hu
        simp only [List.mem_cons, List.mem_nil_iff, or_false] at hm
        rcases hm with rfl | rfl | rfl | rfl | rfl
        · exact ⟨_, rfl, by omega, by omega⟩
        · exact ⟨_, rfl, by omega, by omega⟩
        · exact ⟨_, rfl, by omega, by omega⟩
        · exact ⟨_, rfl, by omega, by omega⟩
        · exact ⟨_, rfl, by omega, by omega⟩
      exact app w' G3 ⟨h1, h2⟩ hD3 (((f1.trans f2).trans (.of_le (.new hrr))).trans f3)
    · simp only [inH_xc, inH_fn, inH_gl, trJ, uFmt, uXf, uXi, gam_hf, gam_xc, tab_kin, trSs, trS, trE, trT, trX, pl, trA, trO, trC, trI, uBin_s, uUn_s, uVar_s, uC_s, getS, setS, uOp, uAdd, uSub, uMul, uDiv, uMod, uPow, uNeg, uCmp, uEqF, uLt, uLe, uGt, uGe, uIsF, isNonU, uTru, Blt.fn, uAbs, uMax2, uMin2, uInt, startU, gam_fn, gam_gl, tab_xcs, tab_sub, UD_nx, UD_rt, UD_bk, UD_ct, UD_ex, spAt, glAt, gls, List.map_cons, List.map_nil, List.cons_append, List.nil_append, List.length_cons, List.length_nil, List.replicate, Nat.reduceAdd, Nat.reduceSub, Nat.zero_add, reduceIte, Bool.false_eq_true, Bool.true_eq_false, Bool.false_bne, Bool.true_bne, Bool.not_true, Bool.not_false, Bool.not_not, List.reverse_cons, List.reverse_nil, Option.map_some, Option.map_none, up_same, uSet, atI_zero, atI_one, ixN_20, ixN_zero, List.set_cons_zero, uPow, h, decide_false]
      exact app w G1 ⟨w1, w2⟩ hD1 f1
theorem w__law_sound (us : List U) (G : UH) (Q : UK) (E : UXn → UH → Prop) (h : sp__law_sound us G Q E) : trSs (TB cl__law_sound) (GM cl__law_sound) b__law_sound (UD Q E) (startU n__law_sound us) G := by
  obtain ⟨p, g, rfl, hD, q⟩ := h
  have lg := line_ge
  simp only [inH_xc, inH_fn, inH_gl, trJ, uFmt, uXf, uXi, gam_hf, gam_xc, tab_kin, trSs, trS, trE, trT, trX, pl, trA, trO, trC, trI, uBin_s, uUn_s, uVar_s, uC_s, getS, setS, uOp, uAdd, uSub, uMul, uDiv, uMod, uPow, uNeg, uCmp, uEqF, uLt, uLe, uGt, uGe, uIsF, isNonU, uTru, Blt.fn, uAbs, uMax2, uMin2, uInt, startU, gam_fn, gam_gl, tab_xcs, tab_sub, UD_nx, UD_rt, UD_bk, UD_ct, UD_ex, spAt, glAt, gls, List.map_cons, List.map_nil, List.cons_append, List.nil_append, List.length_cons, List.length_nil, List.replicate, Nat.reduceAdd, Nat.reduceSub, Nat.zero_add, reduceIte, Bool.false_eq_true, Bool.true_eq_false, Bool.false_bne, Bool.true_bne, Bool.not_true, Bool.not_false, Bool.not_not, List.reverse_cons, List.reverse_nil, Option.map_some, Option.map_none, up_same, uSet, atI_zero, atI_one, ixN_20, ixN_zero, List.set_cons_zero, uPow, b__law_sound, n__law_sound, cl__law_sound, trG]
  refine ⟨p, g, 12, rfl, hD, by decide, by decide, fun r1 G1 a1 b1 hD1 f1 => ?_⟩
  simp only [inH_xc, inH_fn, inH_gl, trJ, uFmt, uXf, uXi, gam_hf, gam_xc, tab_kin, trSs, trS, trE, trT, trX, pl, trA, trO, trC, trI, uBin_s, uUn_s, uVar_s, uC_s, getS, setS, uOp, uAdd, uSub, uMul, uDiv, uMod, uPow, uNeg, uCmp, uEqF, uLt, uLe, uGt, uGe, uIsF, isNonU, uTru, Blt.fn, uAbs, uMax2, uMin2, uInt, startU, gam_fn, gam_gl, tab_xcs, tab_sub, UD_nx, UD_rt, UD_bk, UD_ct, UD_ex, spAt, glAt, gls, List.map_cons, List.map_nil, List.cons_append, List.nil_append, List.length_cons, List.length_nil, List.replicate, Nat.reduceAdd, Nat.reduceSub, Nat.zero_add, reduceIte, Bool.false_eq_true, Bool.true_eq_false, Bool.false_bne, Bool.true_bne, Bool.not_true, Bool.not_false, Bool.not_not, List.reverse_cons, List.reverse_nil, Option.map_some, Option.map_none, up_same, uSet, atI_zero, atI_one, ixN_20, ixN_zero, List.set_cons_zero, uPow]
  refine ⟨p, g, 40, rfl, hD1, by decide, by decide, fun r2 G2 a2 b2 hD2 f2 => ?_⟩
  simp only [inH_xc, inH_fn, inH_gl, trJ, uFmt, uXf, uXi, gam_hf, gam_xc, tab_kin, trSs, trS, trE, trT, trX, pl, trA, trO, trC, trI, uBin_s, uUn_s, uVar_s, uC_s, getS, setS, uOp, uAdd, uSub, uMul, uDiv, uMod, uPow, uNeg, uCmp, uEqF, uLt, uLe, uGt, uGe, uIsF, isNonU, uTru, Blt.fn, uAbs, uMax2, uMin2, uInt, startU, gam_fn, gam_gl, tab_xcs, tab_sub, UD_nx, UD_rt, UD_bk, UD_ct, UD_ex, spAt, glAt, gls, List.map_cons, List.map_nil, List.cons_append, List.nil_append, List.length_cons, List.length_nil, List.replicate, Nat.reduceAdd, Nat.reduceSub, Nat.zero_add, reduceIte, Bool.false_eq_true, Bool.true_eq_false, Bool.false_bne, Bool.true_bne, Bool.not_true, Bool.not_false, Bool.not_not, List.reverse_cons, List.reverse_nil, Option.map_some, Option.map_none, up_same, uSet, atI_zero, atI_one, ixN_20, ixN_zero, List.set_cons_zero, uPow]
  refine ⟨p, g, 3, rfl, hD2, by decide, by decide, fun r3 G3 a3 b3 hD3 f3 => ?_⟩
  simp only [inH_xc, inH_fn, inH_gl, trJ, uFmt, uXf, uXi, gam_hf, gam_xc, tab_kin, trSs, trS, trE, trT, trX, pl, trA, trO, trC, trI, uBin_s, uUn_s, uVar_s, uC_s, getS, setS, uOp, uAdd, uSub, uMul, uDiv, uMod, uPow, uNeg, uCmp, uEqF, uLt, uLe, uGt, uGe, uIsF, isNonU, uTru, Blt.fn, uAbs, uMax2, uMin2, uInt, startU, gam_fn, gam_gl, tab_xcs, tab_sub, UD_nx, UD_rt, UD_bk, UD_ct, UD_ex, spAt, glAt, gls, List.map_cons, List.map_nil, List.cons_append, List.nil_append, List.length_cons, List.length_nil, List.replicate, Nat.reduceAdd, Nat.reduceSub, Nat.zero_add, reduceIte, Bool.false_eq_true, Bool.true_eq_false, Bool.false_bne, Bool.true_bne, Bool.not_true, Bool.not_false, Bool.not_not, List.reverse_cons, List.reverse_nil, Option.map_some, Option.map_none, up_same, uSet, atI_zero, atI_one, ixN_20, ixN_zero, List.set_cons_zero, uPow]
  refine ⟨by omega, fun r hr => ?_⟩
  have n := hD3.ne hr
  refine ⟨p, g, 4, rfl, hD3.le (.new hr), by decide, by decide, fun r4 G4 a4 b4 hD4 f4 => ?_⟩
  have er := f4 _ _ n.1.symm n.2.symm (show UL.up G3 r (.lst [.int r1, .int r2, .int r3, .int 12]) r = _ from up_same)
  have F4 := (((f1.trans f2).trans f3).trans (.of_le (.new hr))).trans f4
  obtain ⟨k, rfl⟩ := Int.eq_ofNat_of_zero_le a4
  obtain ⟨many, hm, hm0, hm1⟩ : ∃ m : Int, atI [U.int r1, U.int r2, U.int r3, U.int 12] (k : Int) = some (.int m) ∧ 0 ≤ m ∧ m < 40 := by
    have hk : k = 0 ∨ k = 1 ∨ k = 2 ∨ k = 3 := by omega
    rcases hk with rfl | rfl | rfl | rfl
    · exact ⟨r1, atI_nat (by omega) rfl, by omega, by omega⟩
    · exact ⟨r2, atI_nat (by omega) rfl, by omega, by omega⟩
    · exact ⟨r3, atI_nat (by omega) rfl, by omega, by omega⟩
    · exact ⟨12, atI_nat (by omega) rfl, by omega, by omega⟩
  simp only [inH_xc, inH_fn, inH_gl, trJ, uFmt, uXf, uXi, gam_hf, gam_xc, tab_kin, trSs, trS, trE, trT, trX, pl, trA, trO, trC, trI, uBin_s, uUn_s, uVar_s, uC_s, getS, setS, uOp, uAdd, uSub, uMul, uDiv, uMod, uPow, uNeg, uCmp, uEqF, uLt, uLe, uGt, uGe, uIsF, isNonU, uTru, Blt.fn, uAbs, uMax2, uMin2, uInt, startU, gam_fn, gam_gl, tab_xcs, tab_sub, UD_nx, UD_rt, UD_bk, UD_ct, UD_ex, spAt, glAt, gls, List.map_cons, List.map_nil, List.cons_append, List.nil_append, List.length_cons, List.length_nil, List.replicate, Nat.reduceAdd, Nat.reduceSub, Nat.zero_add, reduceIte, Bool.false_eq_true, Bool.true_eq_false, Bool.false_bne, Bool.true_bne, Bool.not_true, Bool.not_false, Bool.not_not, List.reverse_cons, List.reverse_nil, Option.map_some, Option.map_none, up_same, uSet, atI_zero, atI_one, ixN_20, ixN_zero, List.set_cons_zero, uPow]
  refine ix_sq (.inr ⟨_, rfl, er⟩) hm ?_
  have rest : ∀ (many : Int) G5, 0 ≤ many → many ≤ 4000 → Dk G5 p g → Fr p g G G5 → trSs (TB cl__law_sound) (GM cl__law_sound) t5__law_sound (UD Q E) [some (.ref p), some (.int many), none, none, none] G5 := by
    intro many G5 m0 m1 hD5 F5
    simp only [inH_xc, inH_fn, inH_gl, trJ, uFmt, uXf, uXi, gam_hf, gam_xc, tab_kin, trSs, trS, trE, trT, trX, pl, trA, trO, trC, trI, uBin_s, uUn_s, uVar_s, uC_s, getS, setS, uOp, uAdd, uSub, uMul, uDiv, uMod, uPow, uNeg, uCmp, uEqF, uLt, uLe, uGt, uGe, uIsF, isNonU, uTru, Blt.fn, uAbs, uMax2, uMin2, uInt, startU, gam_fn, gam_gl, tab_xcs, tab_sub, UD_nx, UD_rt, UD_bk, UD_ct, UD_ex, spAt, glAt, gls, List.map_cons, List.map_nil, List.cons_append, List.nil_append, List.length_cons, List.length_nil, List.replicate, Nat.reduceAdd, Nat.reduceSub, Nat.zero_add, reduceIte, Bool.false_eq_true, Bool.true_eq_false, Bool.false_bne, Bool.true_bne, Bool.not_true, Bool.not_false, Bool.not_not, List.reverse_cons, List.reverse_nil, Option.map_some, Option.map_none, up_same, uSet, atI_zero, atI_one, ixN_20, ixN_zero, List.set_cons_zero, uPow, t5__law_sound, trG]
    refine ⟨by omega, fun S hS => ?_⟩
    have nS := hD5.ne hS
    have eS : UL.up G5 S (.lst []) S = some (.lst (([] : List Int).map U.int)) := up_same
    have L6 := Le.new (o := .lst []) hS
    have hD6 := hD5.le L6
    generalize UL.up G5 S (.lst []) = G6 at L6 hD6 eS ⊢
    simp only [inH_xc, inH_fn, inH_gl, trJ, uFmt, uXf, uXi, gam_hf, gam_xc, tab_kin, trSs, trS, trE, trT, trX, pl, trA, trO, trC, trI, uBin_s, uUn_s, uVar_s, uC_s, getS, setS, uOp, uAdd, uSub, uMul, uDiv, uMod, uPow, uNeg, uCmp, uEqF, uLt, uLe, uGt, uGe, uIsF, isNonU, uTru, Blt.fn, uAbs, uMax2, uMin2, uInt, startU, gam_fn, gam_gl, tab_xcs, tab_sub, UD_nx, UD_rt, UD_bk, UD_ct, UD_ex, spAt, glAt, gls, List.map_cons, List.map_nil, List.cons_append, List.nil_append, List.length_cons, List.length_nil, List.replicate, Nat.reduceAdd, Nat.reduceSub, Nat.zero_add, reduceIte, Bool.false_eq_true, Bool.true_eq_false, Bool.false_bne, Bool.true_bne, Bool.not_true, Bool.not_false, Bool.not_not, List.reverse_cons, List.reverse_nil, Option.map_some, Option.map_none, up_same, uSet, atI_zero, atI_one, ixN_20, ixN_zero, List.set_cons_zero, uPow, t4__law_sound, cl__law_sound, trG]
    refine ⟨p, g, 21, rfl, hD6, by decide, by decide, fun r5 G7 a5 b5 hD7 f7 => ?_⟩
    simp only [inH_xc, inH_fn, inH_gl, trJ, uFmt, uXf, uXi, gam_hf, gam_xc, tab_kin, trSs, trS, trE, trT, trX, pl, trA, trO, trC, trI, uBin_s, uUn_s, uVar_s, uC_s, getS, setS, uOp, uAdd, uSub, uMul, uDiv, uMod, uPow, uNeg, uCmp, uEqF, uLt, uLe, uGt, uGe, uIsF, isNonU, uTru, Blt.fn, uAbs, uMax2, uMin2, uInt, startU, gam_fn, gam_gl, tab_xcs, tab_sub, UD_nx, UD_rt, UD_bk, UD_ct, UD_ex, spAt, glAt, gls, List.map_cons, List.map_nil, List.cons_append, List.nil_append, List.length_cons, List.length_nil, List.replicate, Nat.reduceAdd, Nat.reduceSub, Nat.zero_add, reduceIte, Bool.false_eq_true, Bool.true_eq_false, Bool.false_bne, Bool.true_bne, Bool.not_true, Bool.not_false, Bool.not_not, List.reverse_cons, List.reverse_nil, Option.map_some, Option.map_none, up_same, uSet, atI_zero, atI_one, ixN_20, ixN_zero, List.set_cons_zero, uPow, t3__law_sound]
    refine ⟨by unfold small62; omega, ?_⟩
    refine l_sound (G0 := G5) nS.1 nS.2 _ (fun ws o3 o4 G' hw hl hD' f' e' => ?_) hS _ [] (r5 - 10) _ G7 (fun x hx => by simp only [List.mem_cons, List.mem_nil_iff, or_false] at hx; omega) (by rw [range_len]; simp; omega) hD7 ((Fr.of_le L6).trans f7) (f7 _ _ nS.1.symm nS.2.symm eS)
    simp only [inH_xc, inH_fn, inH_gl, trJ, uFmt, uXf, uXi, gam_hf, gam_xc, tab_kin, trSs, trS, trE, trT, trX, pl, trA, trO, trC, trI, uBin_s, uUn_s, uVar_s, uC_s, getS, setS, uOp, uAdd, uSub, uMul, uDiv, uMod, uPow, uNeg, uCmp, uEqF, uLt, uLe, uGt, uGe, uIsF, isNonU, uTru, Blt.fn, uAbs, uMax2, uMin2, uInt, startU, gam_fn, gam_gl, tab_xcs, tab_sub, UD_nx, UD_rt, UD_bk, UD_ct, UD_ex, spAt, glAt, gls, List.map_cons, List.map_nil, List.cons_append, List.nil_append, List.length_cons, List.length_nil, List.replicate, Nat.reduceAdd, Nat.reduceSub, Nat.zero_add, reduceIte, Bool.false_eq_true, Bool.true_eq_false, Bool.false_bne, Bool.true_bne, Bool.not_true, Bool.not_false, Bool.not_not, List.reverse_cons, List.reverse_nil, Option.map_some, Option.map_none, up_same, uSet, atI_zero, atI_one, ixN_20, ixN_zero, List.set_cons_zero, uPow, t2__law_sound]
    unfold uTuple
    simp only [e']
    exact fin.of (q ws G' hw hl hD' (F5.trans f'))
  simp only [inH_xc, inH_fn, inH_gl, trJ, uFmt, uXf, uXi, gam_hf, gam_xc, tab_kin, trSs, trS, trE, trT, trX, pl, trA, trO, trC, trI, uBin_s, uUn_s, uVar_s, uC_s, getS, setS, uOp, uAdd, uSub, uMul, uDiv, uMod, uPow, uNeg, uCmp, uEqF, uLt, uLe, uGt, uGe, uIsF, isNonU, uTru, Blt.fn, uAbs, uMax2, uMin2, uInt, startU, gam_fn, gam_gl, tab_xcs, tab_sub, UD_nx, UD_rt, UD_bk, UD_ct, UD_ex, spAt, glAt, gls, List.map_cons, List.map_nil, List.cons_append, List.nil_append, List.length_cons, List.length_nil, List.replicate, Nat.reduceAdd, Nat.reduceSub, Nat.zero_add, reduceIte, Bool.false_eq_true, Bool.true_eq_false, Bool.false_bne, Bool.true_bne, Bool.not_true, Bool.not_false, Bool.not_not, List.reverse_cons, List.reverse_nil, Option.map_some, Option.map_none, up_same, uSet, atI_zero, atI_one, ixN_20, ixN_zero, List.set_cons_zero, uPow, trG, t6__law_sound, cl__law_sound]
  refine ⟨p, g, 32, rfl, hD4, by decide, by decide, fun r6 G5 a6 b6 hD5 f5 => ?_⟩
  simp only [inH_xc, inH_fn, inH_gl, trJ, uFmt, uXf, uXi, gam_hf, gam_xc, tab_kin, trSs, trS, trE, trT, trX, pl, trA, trO, trC, trI, uBin_s, uUn_s, uVar_s, uC_s, getS, setS, uOp, uAdd, uSub, uMul, uDiv, uMod, uPow, uNeg, uCmp, uEqF, uLt, uLe, uGt, uGe, uIsF, isNonU, uTru, Blt.fn, uAbs, uMax2, uMin2, uInt, startU, gam_fn, gam_gl, tab_xcs, tab_sub, UD_nx, UD_rt, UD_bk, UD_ct, UD_ex, spAt, glAt, gls, List.map_cons, List.map_nil, List.cons_append, List.nil_append, List.length_cons, List.length_nil, List.replicate, Nat.reduceAdd, Nat.reduceSub, Nat.zero_add, reduceIte, Bool.false_eq_true, Bool.true_eq_false, Bool.false_bne, Bool.true_bne, Bool.not_true, Bool.not_false, Bool.not_not, List.reverse_cons, List.reverse_nil, Option.map_some, Option.map_none, up_same, uSet, atI_zero, atI_one, ixN_20, ixN_zero, List.set_cons_zero, uPow]
  by_cases h : r6 = 0
  · simp only [inH_xc, inH_fn, inH_gl, trJ, uFmt, uXf, uXi, gam_hf, gam_xc, tab_kin, trSs, trS, trE, trT, trX, pl, trA, trO, trC, trI, uBin_s, uUn_s, uVar_s, uC_s, getS, setS, uOp, uAdd, uSub, uMul, uDiv, uMod, uPow, uNeg, uCmp, uEqF, uLt, uLe, uGt, uGe, uIsF, isNonU, uTru, Blt.fn, uAbs, uMax2, uMin2, uInt, startU, gam_fn, gam_gl, tab_xcs, tab_sub, UD_nx, UD_rt, UD_bk, UD_ct, UD_ex, spAt, glAt, gls, List.map_cons, List.map_nil, List.cons_append, List.nil_append, List.length_cons, List.length_nil, List.replicate, Nat.reduceAdd, Nat.reduceSub, Nat.zero_add, reduceIte, Bool.false_eq_true, Bool.true_eq_false, Bool.false_bne, Bool.true_bne, Bool.not_true, Bool.not_false, Bool.not_not, List.reverse_cons, List.reverse_nil, Option.map_some, Option.map_none, up_same, uSet, atI_zero, atI_one, ixN_20, ixN_zero, List.set_cons_zero, uPow, h, decide_true, trG]
    exact rest 4000 G5 (by decide) (by decide) hD5 (F4.trans f5)
  · simp only [inH_xc, inH_fn, inH_gl, trJ, uFmt, uXf, uXi, gam_hf, gam_xc, tab_kin, trSs, trS, trE, trT, trX, pl, trA, trO, trC, trI, uBin_s, uUn_s, uVar_s, uC_s, getS, setS, uOp, uAdd, uSub, uMul, uDiv, uMod, uPow, uNeg, uCmp, uEqF, uLt, uLe, uGt, uGe, uIsF, isNonU, uTru, Blt.fn, uAbs, uMax2, uMin2, uInt, startU, gam_fn, gam_gl, tab_xcs, tab_sub, UD_nx, UD_rt, UD_bk, UD_ct, UD_ex, spAt, glAt, gls, List.map_cons, List.map_nil, List.cons_append, List.nil_append, List.length_cons, List.length_nil, List.replicate, Nat.reduceAdd, Nat.reduceSub, Nat.zero_add, reduceIte, Bool.false_eq_true, Bool.true_eq_false, Bool.false_bne, Bool.true_bne, Bool.not_true, Bool.not_false, Bool.not_not, List.reverse_cons, List.reverse_nil, Option.map_some, Option.map_none, up_same, uSet, atI_zero, atI_one, ixN_20, ixN_zero, List.set_cons_zero, uPow, h, decide_false]
    exact rest many G5 hm0 (by omega) hD5 (F4.trans f5)
end K81
set_option Elab.async false
set_option linter.all false
set_option autoImplicit false
set_option maxRecDepth 100000
set_option maxHeartbeats 4000000
set_option pp.maxSteps 1500
set_option pp.deepTerms false
namespace K81
open PySem PySem.Spec L2 UL
theorem cutTo (us : List U) (k : Nat) : cutU us none (some (k : Int)) = us.take k := by
  unfold cutU HT.sIx
  simp only
  rw [if_neg (by omega), List.drop_zero, Nat.sub_zero, Int.toNat_natCast]
  by_cases h : k ≤ us.length
  · rw [Nat.min_eq_left h]
  · rw [Nat.min_eq_right (by omega), List.take_length, List.take_of_length_le (by omega)]
theorem cutOne (us : List U) (k : Nat) : cutU us (some (k : Int)) (some ((k : Int) + 1)) = (us.drop k).take 1 := by
  unfold cutU HT.sIx
  simp only
  rw [if_neg (by omega), if_neg (by omega), Int.toNat_natCast, show ((k : Int) + 1).toNat = k + 1 by omega]
  by_cases h : k < us.length
  · rw [Nat.min_eq_left (by omega), Nat.min_eq_left (by omega)]
    congr 1
    omega
  · rw [Nat.min_eq_right (by omega), Nat.min_eq_right (by omega), Nat.sub_self, List.drop_length, List.drop_of_length_le (by omega)]
    rfl
theorem cutFrom (us : List U) (k : Nat) : cutU us (some (k : Int)) none = us.drop k := by
  rw [cut_drop (by omega), Int.toNat_natCast]
/-! ### allowed signs -/
theorem okc_num (n : Nat) : (TL.numL n).all okc = true := by
  rw [List.all_eq_true]
  intro c hc
  have := TL.numL_digits n c hc
  exact okc_true (by omega) (by omega) (by omega)
theorem okc_worth (w : Int) : (worthL w).all okc = true := by
  unfold worthL
  split
  · rw [List.all_cons, okc_num]; rfl
  · exact okc_num _
theorem okc_enc (p : Int × Nat) : (enc p).all okc = true := by
  unfold enc
  rw [List.all_append, List.all_cons, okc_worth, okc_num]
  rfl
theorem okc_join {c : Nat} (hc : okc c = true) : ∀ {ls : List (List Nat)}, (∀ l ∈ ls, l.all okc = true) → (TL.joinL [c] ls).all okc = true
  | [], _ => rfl
  | [l], h => h l (by simp)
  | l :: m :: r, h => by
    have := okc_join hc (ls := m :: r) fun x hx => h x (List.mem_cons_of_mem _ hx)
    simp only [TL.joinL, List.all_append, List.all_cons, List.all_nil, hc, this, h l (by simp), Bool.and_true]
theorem okc_parts {c : Nat} : ∀ {ls : List (List Nat)}, (TL.joinL [c] ls).all okc = true → ∀ l ∈ ls, l.all okc = true
  | [], _, l, hl => by cases hl
  | [m], h, l, hl => by rw [List.mem_singleton.mp hl]; exact h
  | m :: k :: r, h, l, hl => by
    simp only [TL.joinL, List.all_append, Bool.and_eq_true] at h
    rcases List.mem_cons.mp hl with rfl | hl
    · exact h.1
    · exact okc_parts (ls := k :: r) h.2.2 l hl
theorem okc_spl {c : Nat} (hc : c < 256) {l : List Nat} (h : l.all okc = true) : ∀ p ∈ TL.spl [c] 0 [] l, p.all okc = true := okc_parts (c := c) (by rw [join_spl hc]; exact h)
theorem okc_show (s : List Int) : (showL s).all okc = true := by
  refine okc_join (by decide) fun l hl => ?_
  simp only [showW, List.mem_cons, List.mem_map] at hl
  rcases hl with rfl | rfl | ⟨p, _, rfl⟩
  · decide
  · exact okc_num _
  · exact okc_enc p
theorem okc_take {l : List Nat} (h : l.all okc = true) (k : Nat) : (l.take k).all okc = true := by
  rw [List.all_eq_true] at h ⊢
  exact fun x hx => h x (List.mem_of_mem_take hx)
theorem okc_drop {l : List Nat} (h : l.all okc = true) (k : Nat) : (l.drop k).all okc = true := by
  rw [List.all_eq_true] at h ⊢
  exact fun x hx => h x (List.mem_of_mem_drop hx)
/-! ### _law_unlike -/
def sp__law_unlike : USp := fun us G Q _ => ∃ (p g : Addr) (ws : List Int), us = [.ref p, .tup (ws.map U.int), .str (SX.S (showL ws))] ∧ Dk G p g ∧ Wd1 ws ∧ ws.length ≤ 4000 ∧ ∀ G', Dk G' p g → Fr p g G G' → Q (.bl true) G'
def cl__law_unlike : List (Str × USp) := [("_law_take", sp__law_take), ("_law_pick", sp__law_pick), ("show_sound", sp_show_sound), ("_law_same", sp__law_same), ("_law_sound_text", sp__law_sound_text), ("_law_right", sp__law_right)]
theorem show_pos (s : List Int) : 0 < (showL s).length := by
  unfold showL showW
  have : ∀ r : List (List Nat), 0 < (TL.joinL [32] (sndL :: TL.numL s.length :: r)).length := fun r => by
    simp only [TL.joinL, List.length_append]
    have : sndL.length = 5 := by decide
    omega
  exact this _
theorem w__law_unlike (us : List U) (G : UH) (Q : UK) (E : UXn → UH → Prop) (h : sp__law_unlike us G Q E) : trSs (TB cl__law_unlike) (GM cl__law_unlike) b__law_unlike (UD Q E) (startU n__law_unlike us) G := by
  obtain ⟨p, g, ws, rfl, hD, hw, hl, q⟩ := h
  have lg := line_ge
  simp only [inH_xc, inH_fn, inH_gl, trJ, uFmt, uXf, uXi, gam_hf, gam_xc, tab_kin, trSs, trS, trE, trT, trX, pl, trA, trO, trC, trI, uBin_s, uUn_s, uVar_s, uC_s, getS, setS, uOp, uAdd, uSub, uMul, uDiv, uMod, uPow, uNeg, uCmp, uEqF, uLt, uLe, uGt, uGe, uIsF, isNonU, uTru, Blt.fn, uAbs, uMax2, uMin2, uInt, startU, gam_fn, gam_gl, tab_xcs, tab_sub, UD_nx, UD_rt, UD_bk, UD_ct, UD_ex, spAt, glAt, gls, List.map_cons, List.map_nil, List.cons_append, List.nil_append, List.length_cons, List.length_nil, List.replicate, Nat.reduceAdd, Nat.reduceSub, Nat.zero_add, reduceIte, Bool.false_eq_true, Bool.true_eq_false, Bool.false_bne, Bool.true_bne, Bool.not_true, Bool.not_false, Bool.not_not, List.reverse_cons, List.reverse_nil, Option.map_some, Option.map_none, up_same, uSet, atI_zero, atI_one, ixN_20, ixN_zero, List.set_cons_zero, uPow, b__law_unlike, n__law_unlike, cl__law_unlike, trG]
  refine len_sq (.inl rfl) ?_
  simp only [inH_xc, inH_fn, inH_gl, trJ, uFmt, uXf, uXi, gam_hf, gam_xc, tab_kin, trSs, trS, trE, trT, trX, pl, trA, trO, trC, trI, uBin_s, uUn_s, uVar_s, uC_s, getS, setS, uOp, uAdd, uSub, uMul, uDiv, uMod, uPow, uNeg, uCmp, uEqF, uLt, uLe, uGt, uGe, uIsF, isNonU, uTru, Blt.fn, uAbs, uMax2, uMin2, uInt, startU, gam_fn, gam_gl, tab_xcs, tab_sub, UD_nx, UD_rt, UD_bk, UD_ct, UD_ex, spAt, glAt, gls, List.map_cons, List.map_nil, List.cons_append, List.nil_append, List.length_cons, List.length_nil, List.replicate, Nat.reduceAdd, Nat.reduceSub, Nat.zero_add, reduceIte, Bool.false_eq_true, Bool.true_eq_false, Bool.false_bne, Bool.true_bne, Bool.not_true, Bool.not_false, Bool.not_not, List.reverse_cons, List.reverse_nil, Option.map_some, Option.map_none, up_same, uSet, atI_zero, atI_one, ixN_20, ixN_zero, List.set_cons_zero, uPow, List.length_map]
  refine ⟨p, g, _, rfl, hD, by omega, by omega, fun r G1 r0 r1 hD1 f1 => ?_⟩
  obtain ⟨k, rfl⟩ := Int.eq_ofNat_of_zero_le r0
  have hk : k ≤ ws.length := by omega
  simp only [inH_xc, inH_fn, inH_gl, trJ, uFmt, uXf, uXi, gam_hf, gam_xc, tab_kin, trSs, trS, trE, trT, trX, pl, trA, trO, trC, trI, uBin_s, uUn_s, uVar_s, uC_s, getS, setS, uOp, uAdd, uSub, uMul, uDiv, uMod, uPow, uNeg, uCmp, uEqF, uLt, uLe, uGt, uGe, uIsF, isNonU, uTru, Blt.fn, uAbs, uMax2, uMin2, uInt, startU, gam_fn, gam_gl, tab_xcs, tab_sub, UD_nx, UD_rt, UD_bk, UD_ct, UD_ex, spAt, glAt, gls, List.map_cons, List.map_nil, List.cons_append, List.nil_append, List.length_cons, List.length_nil, List.replicate, Nat.reduceAdd, Nat.reduceSub, Nat.zero_add, reduceIte, Bool.false_eq_true, Bool.true_eq_false, Bool.false_bne, Bool.true_bne, Bool.not_true, Bool.not_false, Bool.not_not, List.reverse_cons, List.reverse_nil, Option.map_some, Option.map_none, up_same, uSet, atI_zero, atI_one, ixN_20, ixN_zero, List.set_cons_zero, uPow, t6__law_unlike, cl__law_unlike, trG]
  refine ⟨by omega, fun rr hrr => ?_⟩
  have n3 := hD1.ne hrr
  refine ⟨p, g, rr, [.int 7, .int (-7), .int 0, .int 1048575], rfl, hD1.le (.new hrr), ⟨up_same, n3.1, n3.2⟩, by simp, by simp, fun i u G2 hu hD2 f2 => ?_⟩
  obtain ⟨w, rfl, h1, h2, h8⟩ : ∃ w, u = .int w ∧ -1048575 ≤ w ∧ w ≤ 1048575 ∧ w ≠ 8 := by
    have hm := List.mem_of_getElem? hu
    simp only [List.mem_cons, List.mem_nil_iff, or_false] at hm
    rcases hm with rfl | rfl | rfl | rfl
    · exact ⟨_, rfl, by omega, by omega, by omega⟩
    · exact ⟨_, rfl, by omega, by omega, by omega⟩
    · exact ⟨_, rfl, by omega, by omega, by omega⟩
    · exact ⟨_, rfl, by omega, by omega, by omega⟩
  have F2 := (f1.trans (.of_le (.new hrr))).trans f2
  have rest : ∀ w', -1048575 ≤ w' ∧ w' ≤ 1048575 → (ws.drop k).take 1 ≠ [w'] → trSs (TB cl__law_unlike) (GM cl__law_unlike) t4__law_unlike (UD Q E) [some (.ref p), some (.tup (ws.map U.int)), some (.str (SX.S (showL ws))), some (.int k), some (.int w'), none, none] G2 := by
    intro w' hw' hne
    have ho : Wd1 (ws.take k ++ [w'] ++ ws.drop (k + 1)) := fun x hx => by
      simp only [List.mem_append, List.mem_cons, List.mem_nil_iff, or_false] at hx
      rcases hx with (hx | rfl) | hx
      · exact hw x (List.mem_of_mem_take hx)
      · exact hw'
      · exact hw x (List.mem_of_mem_drop hx)
    have hol : (ws.take k ++ [w'] ++ ws.drop (k + 1)).length ≤ 4001 := by simp; omega
    have hun : ws.take k ++ [w'] ++ ws.drop (k + 1) ≠ ws := fun z => by
      have : (ws.take k ++ [w'] ++ ws.drop (k + 1)).drop k = [w'] ++ ws.drop (k + 1) := by
        rw [List.append_assoc, List.drop_append_of_le_length (by rw [List.length_take]; omega), List.drop_of_length_le (by rw [List.length_take]; omega), List.nil_append]
      rw [z] at this
      exact hne (by rw [this]; rfl)
    have eo : cutU (ws.map U.int) none (some (k : Int)) ++ [U.int w'] ++ cutU (ws.map U.int) (some ((k : Int) + 1)) none = (ws.take k ++ [w'] ++ ws.drop (k + 1)).map U.int := by
      rw [cutTo, show (k : Int) + 1 = ((k + 1 : Nat) : Int) by omega, cutFrom, ← List.map_take, ← List.map_drop]
      simp
    have lo : (cutU (ws.map U.int) none (some (k : Int))).length + 1 + (cutU (ws.map U.int) (some ((k : Int) + 1)) none).length ≤ 4001 := by
      have := congrArg List.length eo
      simp only [List.length_append, List.length_cons, List.length_nil, List.length_map] at this
      simp only [List.length_append, List.length_cons, List.length_nil] at hol
      omega
    simp only [inH_xc, inH_fn, inH_gl, trJ, uFmt, uXf, uXi, gam_hf, gam_xc, tab_kin, trSs, trS, trE, trT, trX, pl, trA, trO, trC, trI, uBin_s, uUn_s, uVar_s, uC_s, getS, setS, uOp, uAdd, uSub, uMul, uDiv, uMod, uPow, uNeg, uCmp, uEqF, uLt, uLe, uGt, uGe, uIsF, isNonU, uTru, Blt.fn, uAbs, uMax2, uMin2, uInt, startU, gam_fn, gam_gl, tab_xcs, tab_sub, UD_nx, UD_rt, UD_bk, UD_ct, UD_ex, spAt, glAt, gls, List.map_cons, List.map_nil, List.cons_append, List.nil_append, List.length_cons, List.length_nil, List.replicate, Nat.reduceAdd, Nat.reduceSub, Nat.zero_add, reduceIte, Bool.false_eq_true, Bool.true_eq_false, Bool.false_bne, Bool.true_bne, Bool.not_true, Bool.not_false, Bool.not_not, List.reverse_cons, List.reverse_nil, Option.map_some, Option.map_none, up_same, uSet, atI_zero, atI_one, ixN_20, ixN_zero, List.set_cons_zero, uPow, t4__law_unlike, trG, uSl]
    refine ⟨by omega, by omega, by rw [List.length_append]; show _ + 1 + _ ≤ _; omega, ?_⟩
    rw [eo]
    generalize ws.take k ++ [w'] ++ ws.drop (k + 1) = os at ho hol hun ⊢
    simp only [inH_xc, inH_fn, inH_gl, trJ, uFmt, uXf, uXi, gam_hf, gam_xc, tab_kin, trSs, trS, trE, trT, trX, pl, trA, trO, trC, trI, uBin_s, uUn_s, uVar_s, uC_s, getS, setS, uOp, uAdd, uSub, uMul, uDiv, uMod, uPow, uNeg, uCmp, uEqF, uLt, uLe, uGt, uGe, uIsF, isNonU, uTru, Blt.fn, uAbs, uMax2, uMin2, uInt, startU, gam_fn, gam_gl, tab_xcs, tab_sub, UD_nx, UD_rt, UD_bk, UD_ct, UD_ex, spAt, glAt, gls, List.map_cons, List.map_nil, List.cons_append, List.nil_append, List.length_cons, List.length_nil, List.replicate, Nat.reduceAdd, Nat.reduceSub, Nat.zero_add, reduceIte, Bool.false_eq_true, Bool.true_eq_false, Bool.false_bne, Bool.true_bne, Bool.not_true, Bool.not_false, Bool.not_not, List.reverse_cons, List.reverse_nil, Option.map_some, Option.map_none, up_same, uSet, atI_zero, atI_one, ixN_20, ixN_zero, List.set_cons_zero, uPow, t3__law_unlike, trG, cl__law_unlike]
    refine show_of ho (by omega) fun G3 l3 => ?_
    simp only [inH_xc, inH_fn, inH_gl, trJ, uFmt, uXf, uXi, gam_hf, gam_xc, tab_kin, trSs, trS, trE, trT, trX, pl, trA, trO, trC, trI, uBin_s, uUn_s, uVar_s, uC_s, getS, setS, uOp, uAdd, uSub, uMul, uDiv, uMod, uPow, uNeg, uCmp, uEqF, uLt, uLe, uGt, uGe, uIsF, isNonU, uTru, Blt.fn, uAbs, uMax2, uMin2, uInt, startU, gam_fn, gam_gl, tab_xcs, tab_sub, UD_nx, UD_rt, UD_bk, UD_ct, UD_ex, spAt, glAt, gls, List.map_cons, List.map_nil, List.cons_append, List.nil_append, List.length_cons, List.length_nil, List.replicate, Nat.reduceAdd, Nat.reduceSub, Nat.zero_add, reduceIte, Bool.false_eq_true, Bool.true_eq_false, Bool.false_bne, Bool.true_bne, Bool.not_true, Bool.not_false, Bool.not_not, List.reverse_cons, List.reverse_nil, Option.map_some, Option.map_none, up_same, uSet, atI_zero, atI_one, ixN_20, ixN_zero, List.set_cons_zero, uPow, t2__law_unlike, cl__law_unlike]
    refine ⟨os, rfl, ho, by omega, fun G4 l4 => ?_⟩
    refine ⟨_, rfl, .inl rfl, ?_⟩
    simp only [inH_xc, inH_fn, inH_gl, trJ, uFmt, uXf, uXi, gam_hf, gam_xc, tab_kin, trSs, trS, trE, trT, trX, pl, trA, trO, trC, trI, uBin_s, uUn_s, uVar_s, uC_s, getS, setS, uOp, uAdd, uSub, uMul, uDiv, uMod, uPow, uNeg, uCmp, uEqF, uLt, uLe, uGt, uGe, uIsF, isNonU, uTru, Blt.fn, uAbs, uMax2, uMin2, uInt, startU, gam_fn, gam_gl, tab_xcs, tab_sub, UD_nx, UD_rt, UD_bk, UD_ct, UD_ex, spAt, glAt, gls, List.map_cons, List.map_nil, List.cons_append, List.nil_append, List.length_cons, List.length_nil, List.replicate, Nat.reduceAdd, Nat.reduceSub, Nat.zero_add, reduceIte, Bool.false_eq_true, Bool.true_eq_false, Bool.false_bne, Bool.true_bne, Bool.not_true, Bool.not_false, Bool.not_not, List.reverse_cons, List.reverse_nil, Option.map_some, Option.map_none, up_same, uSet, atI_zero, atI_one, ixN_20, ixN_zero, List.set_cons_zero, uPow, show decide (SX.S (showL os) = SX.S (showL ws)) = false from decide_eq_false (fun z => hun (show_inj ho (by omega) hw (by omega) (SX.S_inj z))), t1__law_unlike, cl__law_unlike]
    have hD4 := (hD2.le l3).le l4
    have hp := show_pos ws
    have hsl := showL_len hw (by omega)
    unfold uLen
    refine ⟨by rw [SX.S_len]; omega, ?_⟩
    rw [SX.S_len]
    refine ⟨p, g, _, rfl, hD4, by omega, by omega, fun r5 G5 a5 b5 hD5 f5 => ?_⟩
    obtain ⟨j, rfl⟩ := Int.eq_ofNat_of_zero_le a5
    simp only [inH_xc, inH_fn, inH_gl, trJ, uFmt, uXf, uXi, gam_hf, gam_xc, tab_kin, trSs, trS, trE, trT, trX, pl, trA, trO, trC, trI, uBin_s, uUn_s, uVar_s, uC_s, getS, setS, uOp, uAdd, uSub, uMul, uDiv, uMod, uPow, uNeg, uCmp, uEqF, uLt, uLe, uGt, uGe, uIsF, isNonU, uTru, Blt.fn, uAbs, uMax2, uMin2, uInt, startU, gam_fn, gam_gl, tab_xcs, tab_sub, UD_nx, UD_rt, UD_bk, UD_ct, UD_ex, spAt, glAt, gls, List.map_cons, List.map_nil, List.cons_append, List.nil_append, List.length_cons, List.length_nil, List.replicate, Nat.reduceAdd, Nat.reduceSub, Nat.zero_add, reduceIte, Bool.false_eq_true, Bool.true_eq_false, Bool.false_bne, Bool.true_bne, Bool.not_true, Bool.not_false, Bool.not_not, List.reverse_cons, List.reverse_nil, Option.map_some, Option.map_none, up_same, uSet, atI_zero, atI_one, ixN_20, ixN_zero, List.set_cons_zero, uPow, uSl]
    rw [cut_take]
    refine ⟨by rw [SX.S_len]; omega, showL ws |>.take j, rfl, by rw [List.length_take]; omega, okc_take (okc_show ws) j, fun G6 l6 => ?_⟩
    exact fin.of (q G6 (hD5.le l6) ((((F2.trans (.of_le l3)).trans (.of_le l4)).trans f5).trans (.of_le l6)))
  simp only [inH_xc, inH_fn, inH_gl, trJ, uFmt, uXf, uXi, gam_hf, gam_xc, tab_kin, trSs, trS, trE, trT, trX, pl, trA, trO, trC, trI, uBin_s, uUn_s, uVar_s, uC_s, getS, setS, uOp, uAdd, uSub, uMul, uDiv, uMod, uPow, uNeg, uCmp, uEqF, uLt, uLe, uGt, uGe, uIsF, isNonU, uTru, Blt.fn, uAbs, uMax2, uMin2, uInt, startU, gam_fn, gam_gl, tab_xcs, tab_sub, UD_nx, UD_rt, UD_bk, UD_ct, UD_ex, spAt, glAt, gls, List.map_cons, List.map_nil, List.cons_append, List.nil_append, List.length_cons, List.length_nil, List.replicate, Nat.reduceAdd, Nat.reduceSub, Nat.zero_add, reduceIte, Bool.false_eq_true, Bool.true_eq_false, Bool.false_bne, Bool.true_bne, Bool.not_true, Bool.not_false, Bool.not_not, List.reverse_cons, List.reverse_nil, Option.map_some, Option.map_none, up_same, uSet, atI_zero, atI_one, ixN_20, ixN_zero, List.set_cons_zero, uPow, t5__law_unlike, trG, uSl]
  refine ⟨by omega, ?_⟩
  rw [cutOne, ← List.map_drop, ← List.map_take, dOf_tup, show dOf G2 (U.tup [U.int w]) = some (.tuple ([w].map PyData.int)) from dOf_tup [w]]
  refine ⟨shaped_tup _, shaped_tup _, ?_⟩
  rw [eqv_tup]
  by_cases h : (ws.drop k).take 1 = [w]
  · simp only [inH_xc, inH_fn, inH_gl, trJ, uFmt, uXf, uXi, gam_hf, gam_xc, tab_kin, trSs, trS, trE, trT, trX, pl, trA, trO, trC, trI, uBin_s, uUn_s, uVar_s, uC_s, getS, setS, uOp, uAdd, uSub, uMul, uDiv, uMod, uPow, uNeg, uCmp, uEqF, uLt, uLe, uGt, uGe, uIsF, isNonU, uTru, Blt.fn, uAbs, uMax2, uMin2, uInt, startU, gam_fn, gam_gl, tab_xcs, tab_sub, UD_nx, UD_rt, UD_bk, UD_ct, UD_ex, spAt, glAt, gls, List.map_cons, List.map_nil, List.cons_append, List.nil_append, List.length_cons, List.length_nil, List.replicate, Nat.reduceAdd, Nat.reduceSub, Nat.zero_add, reduceIte, Bool.false_eq_true, Bool.true_eq_false, Bool.false_bne, Bool.true_bne, Bool.not_true, Bool.not_false, Bool.not_not, List.reverse_cons, List.reverse_nil, Option.map_some, Option.map_none, up_same, uSet, atI_zero, atI_one, ixN_20, ixN_zero, List.set_cons_zero, uPow, h, decide_true]
    exact rest 8 ⟨by decide, by decide⟩ (by rw [h]; intro z; cases z; exact h8 rfl)
  · simp only [inH_xc, inH_fn, inH_gl, trJ, uFmt, uXf, uXi, gam_hf, gam_xc, tab_kin, trSs, trS, trE, trT, trX, pl, trA, trO, trC, trI, uBin_s, uUn_s, uVar_s, uC_s, getS, setS, uOp, uAdd, uSub, uMul, uDiv, uMod, uPow, uNeg, uCmp, uEqF, uLt, uLe, uGt, uGe, uIsF, isNonU, uTru, Blt.fn, uAbs, uMax2, uMin2, uInt, startU, gam_fn, gam_gl, tab_xcs, tab_sub, UD_nx, UD_rt, UD_bk, UD_ct, UD_ex, spAt, glAt, gls, List.map_cons, List.map_nil, List.cons_append, List.nil_append, List.length_cons, List.length_nil, List.replicate, Nat.reduceAdd, Nat.reduceSub, Nat.zero_add, reduceIte, Bool.false_eq_true, Bool.true_eq_false, Bool.false_bne, Bool.true_bne, Bool.not_true, Bool.not_false, Bool.not_not, List.reverse_cons, List.reverse_nil, Option.map_some, Option.map_none, up_same, uSet, atI_zero, atI_one, ixN_20, ixN_zero, List.set_cons_zero, uPow, decide_eq_false h]
    exact rest w ⟨h1, h2⟩ h
end K81
set_option Elab.async false
set_option linter.all false
set_option autoImplicit false
set_option maxRecDepth 100000
set_option maxHeartbeats 4000000
set_option pp.maxSteps 1500
set_option pp.deepTerms false
namespace K81
open PySem PySem.Spec L2 UL
/-! ### what is kept along a walk -/
structure St (p g : Addr) (G0 : UH) (kept : List (Addr × List U)) (G : UH) : Prop where
  dk : Dk G p g
  fr : Fr p g G0 G
  at_ : ∀ k ∈ kept, G k.1 = some (.lst k.2) ∧ p ≠ k.1 ∧ g ≠ k.1
section
variable {p g : Addr} {G0 G G' : UH} {kept : List (Addr × List U)}
theorem St.le (s : St p g G0 kept G) (l : Le G G') : St p g G0 kept G' := ⟨s.dk.le l, s.fr.trans (.of_le l), fun k hk => ⟨l _ _ (s.at_ k hk).1, (s.at_ k hk).2⟩⟩
theorem St.go (s : St p g G0 kept G) (h : Dk G' p g) (f : Fr p g G G') : St p g G0 kept G' := ⟨h, s.fr.trans f, fun k hk => ⟨f _ _ (s.at_ k hk).2.1.symm (s.at_ k hk).2.2.symm (s.at_ k hk).1, (s.at_ k hk).2⟩⟩
theorem St.push (s : St p g G0 kept G) {a : Addr} {us : List U} (h : G a = none) : St p g G0 ((a, us) :: kept) (UL.up G a (.lst us)) := by
  have s' := s.le (.new (o := .lst us) h)
  refine ⟨s'.dk, s'.fr, fun k hk => ?_⟩
  rcases List.mem_cons.mp hk with rfl | hk
  · exact ⟨up_same, s.dk.ne h⟩
  · exact s'.at_ k hk
theorem take_st (s : St p g G0 kept G) {many : Int} {Q : UK} {E : UXn → UH → Prop} (h0 : 0 < many) (h1 : many < 1073741824) (k : ∀ (r : Nat) G', (r : Int) < many → St p g G0 kept G' → Q (.int r) G') : sp__law_take [.ref p, .int many] G Q E :=
  ⟨p, g, many, rfl, s.dk, h0, h1, fun r G' r0 r1 hD f => by
    obtain ⟨j, rfl⟩ := Int.eq_ofNat_of_zero_le r0
    exact k j G' r1 (s.go hD f)⟩
theorem pick_st (s : St p g G0 kept G) {rr : Addr} {rows : List U} {Q : UK} {E : UXn → UH → Prop} (ha : (rr, rows) ∈ kept) (h0 : rows ≠ []) (h1 : rows.length < 1000) (k : ∀ u G', u ∈ rows → St p g G0 kept G' → Q u G') : sp__law_pick [.ref p, .ref rr] G Q E :=
  ⟨p, g, rr, rows, rfl, s.dk, s.at_ _ ha, h0, h1, fun i u G' hu hD f => k u G' (List.mem_of_getElem? hu) (s.go hD f)⟩
theorem St.pop {x : Addr × List U} (s : St p g G0 (x :: kept) G) : St p g G0 kept G := ⟨s.dk, s.fr, fun k hk => s.at_ k (List.mem_cons_of_mem _ hk)⟩
end
def OkS (B : Nat) (u : U) : Prop := ∃ x, u = .str (SX.S x) ∧ x.all okc = true ∧ x.length ≤ B
theorem OkS.lit {B : Nat} {s : Str} (h : (TL.tl s).all okc = true) (h2 : (TL.tl s).length ≤ B) : OkS B (.str s) := ⟨TL.tl s, congrArg U.str (lit_S s), h, h2⟩
def wt (qs : List (List Nat)) : Nat := (qs.map (·.length)).sum + qs.length
theorem wt_app (a b : List (List Nat)) : wt (a ++ b) = wt a + wt b := by
  unfold wt
  rw [List.map_append, List.sum_append, List.length_append]
  omega
theorem wt_take (a : List (List Nat)) (k : Nat) : wt (a.take k) ≤ wt a := by
  have := wt_app (a.take k) (a.drop k)
  rw [List.take_append_drop] at this
  omega
theorem wt_drop (a : List (List Nat)) (k : Nat) : wt (a.drop k) ≤ wt a := by
  have := wt_app (a.take k) (a.drop k)
  rw [List.take_append_drop] at this
  omega
theorem join_ok {a : Addr} {qs : List (List Nat)} {G : UH} {Q : UK} (e : G a = some (.lst (wU qs))) (h : wt qs ≤ 100000) (q : Q (.str (SX.S (TL.joinL [32] qs))) G) : Mth.fn .join (.str (Str.ofString " ")) [.ref a] G Q := by
  unfold wt at h
  show uL (.ref a) G fun _ zs => match strsOf zs with
    | some ys => (ys.map (·.length)).sum + ys.length * (Str.ofString " ").length ≤ 16777216 ∧ Q (.str (Txt.join (Str.ofString " ") ys)) G
    | none => False
  unfold uL
  simp only [e, strsOf_map]
  refine ⟨?_, ?_⟩
  · rw [lens, List.length_map]
    show _ + _ * 1 ≤ _
    omega
  · rw [show Str.ofString " " = SX.S [32] from rfl, SX.join_S]
    exact q
theorem wU_take (qs : List (List Nat)) (k : Nat) : (wU qs).take k = wU (qs.take k) := by rw [wU, wU, List.map_take, List.map_take]
theorem wU_drop (qs : List (List Nat)) (k : Nat) : (wU qs).drop k = wU (qs.drop k) := by rw [wU, wU, List.map_drop, List.map_drop]
theorem wU_app (a b : List (List Nat)) : wU a ++ wU b = wU (a ++ b) := by rw [wU, wU, wU, List.map_append, List.map_append]
theorem okj {qs : List (List Nat)} (h : ∀ q ∈ qs, q.all okc = true) (hw : wt qs ≤ 100000) : OkS 100000 (.str (SX.S (TL.joinL [32] qs))) := ⟨_, rfl, okc_join (by decide) h, by have := join_len (c := 32) qs; unfold wt at hw; omega⟩
/-! ### steps by values -/
theorem oAdd_i {i j : Int} {G : UH} {Q : UK} : uOp .Add (.int i) (.int j) G Q = Q (.int (i + j)) G := rfl
theorem oSub_i {i j : Int} {G : UH} {Q : UK} : uOp .Sub (.int i) (.int j) G Q = Q (.int (i - j)) G := rfl
theorem cEq_i {i j : Int} {G : UH} {Q : UK} : uCmp .Eq (.int i) (.int j) G Q = Q (.bl (decide (i = j))) G := by
  show Q (.bl (false ^^ decide (i = j))) G = _
  rw [Bool.false_xor]
theorem cNotN_n {G : UH} {Q : UK} : uCmp .IsNot .non .non G Q = Q (.bl false) G := rfl
theorem cNotN_i {i : Int} {G : UH} {Q : UK} : uCmp .IsNot (.int i) .non G Q = Q (.bl true) G := rfl
theorem add_str {x y : List Nat} {G : UH} {Q : UK} (h : x.length + y.length ≤ 1000000) (q : Q (.str (SX.S (x ++ y))) G) : uOp .Add (.str (SX.S x)) (.str (SX.S y)) G Q := by
  have lg := line_ge
  refine ⟨by rw [SX.S_len, SX.S_len]; omega, ?_⟩
  rw [SX.S_cat]
  exact q
theorem add_ref {a b : Addr} {xs ys : List U} {G : UH} {Q : UK} (ea : G a = some (.lst xs)) (eb : G b = some (.lst ys)) (h : xs.length + ys.length ≤ 1000000) (q : ∀ c, G c = none → Q (.ref c) (UL.up G c (.lst (xs ++ ys)))) : uOp .Add (.ref a) (.ref b) G Q := by
  have lg := line_ge
  show (match G a, G b with
    | some (.lst xs), some (.lst ys) => xs.length + ys.length ≤ sizeLine ∧ ∀ p, G p = none → Q (.ref p) (UL.up G p (.lst (xs ++ ys)))
    | _, _ => False)
  rw [ea, eb]
  exact ⟨by omega, q⟩
theorem sl_to {x : List Nat} {k : Nat} {G : UH} {Q : UK} (h : x.length ≤ 1000000) (q : Q (.str (SX.S (x.take k))) G) : uSl (.str (SX.S x)) none (some (k : Int)) G Q := by
  have lg := line_ge
  refine ⟨by rw [SX.S_len]; omega, ?_⟩
  rw [cut_take]
  exact q
theorem sl_from {x : List Nat} {k : Nat} {G : UH} {Q : UK} (h : x.length ≤ 1000000) (q : Q (.str (SX.S (x.drop k))) G) : uSl (.str (SX.S x)) (some (k : Int)) none G Q := by
  have lg := line_ge
  refine ⟨by rw [SX.S_len]; omega, ?_⟩
  rw [cut_from]
  exact q
theorem sl_from1 {x : List Nat} {k : Nat} {G : UH} {Q : UK} (h : x.length ≤ 1000000) (q : Q (.str (SX.S (x.drop (k + 1)))) G) : uSl (.str (SX.S x)) (some ((k : Int) + 1)) none G Q := by
  rw [show (k : Int) + 1 = ((k + 1 : Nat) : Int) by omega]
  exact sl_from h q
theorem sl_lto {R : Addr} {qs : List (List Nat)} {k : Nat} {G : UH} {Q : UK} (e : G R = some (.lst (wU qs))) (q : ∀ c, G c = none → Q (.ref c) (UL.up G c (.lst (wU (qs.take k))))) : uSl (.ref R) none (some (k : Int)) G Q := by
  unfold uSl
  simp only [e]
  rw [cutTo, wU_take]
  exact q
theorem sl_lfrom {R : Addr} {qs : List (List Nat)} {k : Nat} {G : UH} {Q : UK} (e : G R = some (.lst (wU qs))) (q : ∀ c, G c = none → Q (.ref c) (UL.up G c (.lst (wU (qs.drop k))))) : uSl (.ref R) (some (k : Int)) none G Q := by
  unfold uSl
  simp only [e]
  rw [cutFrom, wU_drop]
  exact q
theorem sl_lto1 {R : Addr} {qs : List (List Nat)} {k : Nat} {G : UH} {Q : UK} (e : G R = some (.lst (wU qs))) (q : ∀ c, G c = none → Q (.ref c) (UL.up G c (.lst (wU (qs.take (k + 1)))))) : uSl (.ref R) none (some ((k : Int) + 1)) G Q := by
  rw [show (k : Int) + 1 = ((k + 1 : Nat) : Int) by omega]
  exact sl_lto e q
theorem sl_lfrom1 {R : Addr} {qs : List (List Nat)} {k : Nat} {G : UH} {Q : UK} (e : G R = some (.lst (wU qs))) (q : ∀ c, G c = none → Q (.ref c) (UL.up G c (.lst (wU (qs.drop (k + 1)))))) : uSl (.ref R) (some ((k : Int) + 1)) none G Q := by
  rw [show (k : Int) + 1 = ((k + 1 : Nat) : Int) by omega]
  exact sl_lfrom e q
/-! ### _law_bent_sound -/
def sp__law_bent_sound : USp := fun us G Q _ => ∃ (p g : Addr) (l : List Nat), us = [.ref p, .str (SX.S l)] ∧ Dk G p g ∧ l.length ≤ 5000 ∧ l.all okc = true ∧ ∀ u G', OkS 100000 u → Dk G' p g → Fr p g G G' → Q u G'
def cl__law_bent_sound : List (Str × USp) := [("_law_take", sp__law_take), ("_law_pick", sp__law_pick), ("_law_number", sp__law_number)]
theorem w__law_bent_sound (us : List U) (G : UH) (Q : UK) (E : UXn → UH → Prop) (h : sp__law_bent_sound us G Q E) : trSs (TB cl__law_bent_sound) (GM cl__law_bent_sound) b__law_bent_sound (UD Q E) (startU n__law_bent_sound us) G := by
  obtain ⟨p, g, l, rfl, hD, hl, hok, q⟩ := h
  have lg := line_ge
  have s0 : St p g G [] G := ⟨hD, .refl _ _ _, fun k hk => by cases hk⟩
  have ul : ∀ {G : UH} {Q : UK}, Q (.int l.length) G → uLen [.str (SX.S l)] G Q := fun q => by
    unfold uLen
    exact ⟨by rw [SX.S_len]; omega, by rw [SX.S_len]; exact q⟩
  simp only [inH_xc, inH_fn, inH_gl, trJ, uFmt, uXf, uXi, gam_hf, gam_xc, tab_kin, trSs, trS, trE, trT, trX, pl, trA, trO, trC, trI, uBin_s, uUn_s, uVar_s, uC_s, getS, setS, uOp, uAdd, uSub, uMul, uDiv, uMod, uPow, uNeg, uCmp, uEqF, uLt, uLe, uGt, uGe, uIsF, isNonU, uTru, Blt.fn, uAbs, uMax2, uMin2, uInt, startU, gam_fn, gam_gl, tab_xcs, tab_sub, UD_nx, UD_rt, UD_bk, UD_ct, UD_ex, spAt, glAt, gls, List.map_cons, List.map_nil, List.cons_append, List.nil_append, List.length_cons, List.length_nil, List.replicate, Nat.reduceAdd, Nat.reduceSub, Nat.zero_add, reduceIte, Bool.false_eq_true, Bool.true_eq_false, Bool.false_bne, Bool.true_bne, Bool.not_true, Bool.not_false, Bool.not_not, List.reverse_cons, List.reverse_nil, Option.map_some, Option.map_none, up_same, uSet, atI_zero, atI_one, ixN_20, ixN_zero, List.set_cons_zero, uPow, b__law_bent_sound, n__law_bent_sound, cl__law_bent_sound, trG]
  refine ul ?_
  simp only [inH_xc, inH_fn, inH_gl, trJ, uFmt, uXf, uXi, gam_hf, gam_xc, tab_kin, trSs, trS, trE, trT, trX, pl, trA, trO, trC, trI, uBin_s, uUn_s, uVar_s, uC_s, getS, setS, uOp, uAdd, uSub, uMul, uDiv, uMod, uPow, uNeg, uCmp, uEqF, uLt, uLe, uGt, uGe, uIsF, isNonU, uTru, Blt.fn, uAbs, uMax2, uMin2, uInt, startU, gam_fn, gam_gl, tab_xcs, tab_sub, UD_nx, UD_rt, UD_bk, UD_ct, UD_ex, spAt, glAt, gls, List.map_cons, List.map_nil, List.cons_append, List.nil_append, List.length_cons, List.length_nil, List.replicate, Nat.reduceAdd, Nat.reduceSub, Nat.zero_add, reduceIte, Bool.false_eq_true, Bool.true_eq_false, Bool.false_bne, Bool.true_bne, Bool.not_true, Bool.not_false, Bool.not_not, List.reverse_cons, List.reverse_nil, Option.map_some, Option.map_none, up_same, uSet, atI_zero, atI_one, ixN_20, ixN_zero, List.set_cons_zero, uPow]
  refine take_st s0 (by omega) (by omega) fun at_ G1 hat s1 => ?_
  simp only [inH_xc, inH_fn, inH_gl, trJ, uFmt, uXf, uXi, gam_hf, gam_xc, tab_kin, trSs, trS, trE, trT, trX, pl, trA, trO, trC, trI, uBin_s, uUn_s, uVar_s, uC_s, getS, setS, uOp, uAdd, uSub, uMul, uDiv, uMod, uPow, uNeg, uCmp, uEqF, uLt, uLe, uGt, uGe, uIsF, isNonU, uTru, Blt.fn, uAbs, uMax2, uMin2, uInt, startU, gam_fn, gam_gl, tab_xcs, tab_sub, UD_nx, UD_rt, UD_bk, UD_ct, UD_ex, spAt, glAt, gls, List.map_cons, List.map_nil, List.cons_append, List.nil_append, List.length_cons, List.length_nil, List.replicate, Nat.reduceAdd, Nat.reduceSub, Nat.zero_add, reduceIte, Bool.false_eq_true, Bool.true_eq_false, Bool.false_bne, Bool.true_bne, Bool.not_true, Bool.not_false, Bool.not_not, List.reverse_cons, List.reverse_nil, Option.map_some, Option.map_none, up_same, uSet, atI_zero, atI_one, ixN_20, ixN_zero, List.set_cons_zero, uPow, t12__law_bent_sound, cl__law_bent_sound, trG]
  refine ⟨by omega, fun a1 ha1 => ?_⟩
  have s2 := s1.push (us := [U.str (Str.ofString "0"), U.str (Str.ofString "1"), U.str (Str.ofString "9"), U.str (Str.ofString "-"), U.str (Str.ofString "*"), U.str (Str.ofString " "), U.str (Str.ofString "+"), U.str (Str.ofString "\n"), U.str (Str.ofString "s")]) ha1
  generalize UL.up G1 a1 _ = G2 at s2 ⊢
  refine pick_st s2 List.mem_cons_self (by simp) (by simp) fun sign G3 hsign s3 => ?_
  obtain ⟨sg, rfl, sg1, sg2⟩ : OkS 20 sign := by
    simp only [List.mem_cons, List.mem_nil_iff, or_false] at hsign
    rcases hsign with rfl | rfl | rfl | rfl | rfl | rfl | rfl | rfl | rfl <;> exact OkS.lit (by decide) (by decide)
  have s3 := s3.pop
  clear s2
  simp only [inH_xc, inH_fn, inH_gl, trJ, uFmt, uXf, uXi, gam_hf, gam_xc, tab_kin, trSs, trS, trE, trT, trX, pl, trA, trO, trC, trI, uBin_s, uUn_s, uVar_s, uC_s, getS, setS, uOp, uAdd, uSub, uMul, uDiv, uMod, uPow, uNeg, uCmp, uEqF, uLt, uLe, uGt, uGe, uIsF, isNonU, uTru, Blt.fn, uAbs, uMax2, uMin2, uInt, startU, gam_fn, gam_gl, tab_xcs, tab_sub, UD_nx, UD_rt, UD_bk, UD_ct, UD_ex, spAt, glAt, gls, List.map_cons, List.map_nil, List.cons_append, List.nil_append, List.length_cons, List.length_nil, List.replicate, Nat.reduceAdd, Nat.reduceSub, Nat.zero_add, reduceIte, Bool.false_eq_true, Bool.true_eq_false, Bool.false_bne, Bool.true_bne, Bool.not_true, Bool.not_false, Bool.not_not, List.reverse_cons, List.reverse_nil, Option.map_some, Option.map_none, up_same, uSet, atI_zero, atI_one, ixN_20, ixN_zero, List.set_cons_zero, uPow, t11__law_bent_sound, trG, Mth.T, Mth.fn, mTy]
  rw [show Str.ofString " " = SX.S [32] from rfl, split_1 (by decide)]
  refine ⟨trivial, rfl, by rw [SX.S_len]; omega, fun R hR => ?_⟩
  have hb := fun (x : List Nat) (hx : x ∈ TL.spl [32] 0 [] l) => spl_len (by decide) hx
  have hpk := okc_spl (c := 32) (by decide) hok
  have hne := spl_ne (c := 32) (by decide) l
  have hcnt : wt (TL.spl [32] 0 [] l) ≤ l.length + 1 := spl_cnt (by decide) l
  generalize TL.spl [32] 0 [] l = ps at hb hpk hne hcnt ⊢
  have s4 := s3.push (us := wU ps) hR
  generalize UL.up G3 R _ = G4 at s4 ⊢
  have hpl : ps.length ≠ 0 := fun z => hne (List.length_eq_zero_iff.mp z)
  have hpl2 : ps.length ≤ 5001 := by unfold wt at hcnt; omega
  simp only [inH_xc, inH_fn, inH_gl, trJ, uFmt, uXf, uXi, gam_hf, gam_xc, tab_kin, trSs, trS, trE, trT, trX, pl, trA, trO, trC, trI, uBin_s, uUn_s, uVar_s, uC_s, getS, setS, uOp, uAdd, uSub, uMul, uDiv, uMod, uPow, uNeg, uCmp, uEqF, uLt, uLe, uGt, uGe, uIsF, isNonU, uTru, Blt.fn, uAbs, uMax2, uMin2, uInt, startU, gam_fn, gam_gl, tab_xcs, tab_sub, UD_nx, UD_rt, UD_bk, UD_ct, UD_ex, spAt, glAt, gls, List.map_cons, List.map_nil, List.cons_append, List.nil_append, List.length_cons, List.length_nil, List.replicate, Nat.reduceAdd, Nat.reduceSub, Nat.zero_add, reduceIte, Bool.false_eq_true, Bool.true_eq_false, Bool.false_bne, Bool.true_bne, Bool.not_true, Bool.not_false, Bool.not_not, List.reverse_cons, List.reverse_nil, Option.map_some, Option.map_none, up_same, uSet, atI_zero, atI_one, ixN_20, ixN_zero, List.set_cons_zero, uPow, t10__law_bent_sound, cl__law_bent_sound, trG]
  refine len_sq (.inr ⟨_, rfl, (s4.at_ _ List.mem_cons_self).1⟩) ?_
  rw [List.length_map, List.length_map]
  refine take_st s4 (by omega) (by omega) fun pl_ G5 hpl_ s5 => ?_
  simp only [inH_xc, inH_fn, inH_gl, trJ, uFmt, uXf, uXi, gam_hf, gam_xc, tab_kin, trSs, trS, trE, trT, trX, pl, trA, trO, trC, trI, uBin_s, uUn_s, uVar_s, uC_s, getS, setS, uOp, uAdd, uSub, uMul, uDiv, uMod, uPow, uNeg, uCmp, uEqF, uLt, uLe, uGt, uGe, uIsF, isNonU, uTru, Blt.fn, uAbs, uMax2, uMin2, uInt, startU, gam_fn, gam_gl, tab_xcs, tab_sub, UD_nx, UD_rt, UD_bk, UD_ct, UD_ex, spAt, glAt, gls, List.map_cons, List.map_nil, List.cons_append, List.nil_append, List.length_cons, List.length_nil, List.replicate, Nat.reduceAdd, Nat.reduceSub, Nat.zero_add, reduceIte, Bool.false_eq_true, Bool.true_eq_false, Bool.false_bne, Bool.true_bne, Bool.not_true, Bool.not_false, Bool.not_not, List.reverse_cons, List.reverse_nil, Option.map_some, Option.map_none, up_same, uSet, atI_zero, atI_one, ixN_20, ixN_zero, List.set_cons_zero, uPow, t9__law_bent_sound, cl__law_bent_sound, trG]
  refine ⟨by omega, fun a2 ha2 => ?_⟩
  have s6 := s5.push (us := [U.str (Str.ofString "0*1"), U.str (Str.ofString "-0*1"), U.str (Str.ofString "0*0"), U.str (Str.ofString "00*1"), U.str (Str.ofString "1*01"), U.str (Str.ofString "5*2"), U.str (Str.ofString "0"), U.str (Str.ofString "1"), U.str (Str.ofString "2"), U.str (Str.ofString "-1048576*1"), U.str (Str.ofString "1048575*1"), U.str (Str.ofString "1*1*1"), U.str (Str.ofString "*1"), U.str (Str.ofString "1*")]) ha2
  generalize UL.up G5 a2 _ = G6 at s6 ⊢
  refine pick_st s6 List.mem_cons_self (by simp) (by simp) fun near G7 hnear s7 => ?_
  obtain ⟨nr, rfl, nr1, nr2⟩ : OkS 20 near := by
    simp only [List.mem_cons, List.mem_nil_iff, or_false] at hnear
    rcases hnear with rfl | rfl | rfl | rfl | rfl | rfl | rfl | rfl | rfl | rfl | rfl | rfl | rfl | rfl <;> exact OkS.lit (by decide) (by decide)
  have s7 := s7.pop
  clear s6
  simp only [inH_xc, inH_fn, inH_gl, trJ, uFmt, uXf, uXi, gam_hf, gam_xc, tab_kin, trSs, trS, trE, trT, trX, pl, trA, trO, trC, trI, uBin_s, uUn_s, uVar_s, uC_s, getS, setS, uOp, uAdd, uSub, uMul, uDiv, uMod, uPow, uNeg, uCmp, uEqF, uLt, uLe, uGt, uGe, uIsF, isNonU, uTru, Blt.fn, uAbs, uMax2, uMin2, uInt, startU, gam_fn, gam_gl, tab_xcs, tab_sub, UD_nx, UD_rt, UD_bk, UD_ct, UD_ex, spAt, glAt, gls, List.map_cons, List.map_nil, List.cons_append, List.nil_append, List.length_cons, List.length_nil, List.replicate, Nat.reduceAdd, Nat.reduceSub, Nat.zero_add, reduceIte, Bool.false_eq_true, Bool.true_eq_false, Bool.false_bne, Bool.true_bne, Bool.not_true, Bool.not_false, Bool.not_not, List.reverse_cons, List.reverse_nil, Option.map_some, Option.map_none, up_same, uSet, atI_zero, atI_one, ixN_20, ixN_zero, List.set_cons_zero, uPow, t8__law_bent_sound, cl__law_bent_sound, trG]
  refine ⟨by rw [SX.S_len]; show _ + 1 ≤ _; omega, by omega, fun a3 ha3 => ?_⟩
  rw [show SX.S l ++ Str.ofString "\n" = SX.S (l ++ [10]) from SX.S_cat l [10]]
  have s8 := s7.push (us := [U.str (Str.ofString "sound 20000 5*20000"), U.str (Str.ofString "sound 20001 5*20001"), U.str (Str.ofString "sound 0"), U.str (Str.ofString "sound 1 1048576*1"), U.str (Str.ofString "sound 1 -1048575*1"), U.str (Str.ofString "sound"), U.str (Str.ofString ""), U.str (SX.S (l ++ [10]))]) ha3
  generalize UL.up G7 a3 _ = G8 at s8 ⊢
  refine pick_st s8 List.mem_cons_self (by simp) (by simp) fun whole G9 hwhole s9 => ?_
  have hwh : OkS 100000 whole := by
    simp only [List.mem_cons, List.mem_nil_iff, or_false] at hwhole
    rcases hwhole with rfl | rfl | rfl | rfl | rfl | rfl | rfl | rfl
    · exact OkS.lit (by decide) (by decide)
    · exact OkS.lit (by decide) (by decide)
    · exact OkS.lit (by decide) (by decide)
    · exact OkS.lit (by decide) (by decide)
    · exact OkS.lit (by decide) (by decide)
    · exact OkS.lit (by decide) (by decide)
    · exact OkS.lit (by decide) (by decide)
    · exact ⟨_, rfl, by rw [List.all_append, hok]; rfl, by simp; omega⟩
  have s9 := s9.pop
  clear s8
  have hpl3 : pl_ < ps.length := by omega
  obtain ⟨w, hw⟩ : ∃ w, ps[pl_]? = some w := ⟨ps[pl_], by rw [List.getElem?_eq_getElem]⟩
  have hwm := List.mem_of_getElem? hw
  have atw : atI (wU ps) (pl_ : Int) = some (.str (SX.S w)) := atI_nat (by omega) (by rw [Int.toNat_natCast, wU, List.getElem?_map, List.getElem?_map, hw]; rfl)
  have hwl : w.length ≤ 5000 := by have := hb w hwm; omega
  simp only [inH_xc, inH_fn, inH_gl, trJ, uFmt, uXf, uXi, gam_hf, gam_xc, tab_kin, trSs, trS, trE, trT, trX, pl, trA, trO, trC, trI, uBin_s, uUn_s, uVar_s, uC_s, getS, setS, uOp, uAdd, uSub, uMul, uDiv, uMod, uPow, uNeg, uCmp, uEqF, uLt, uLe, uGt, uGe, uIsF, isNonU, uTru, Blt.fn, uAbs, uMax2, uMin2, uInt, startU, gam_fn, gam_gl, tab_xcs, tab_sub, UD_nx, UD_rt, UD_bk, UD_ct, UD_ex, spAt, glAt, gls, List.map_cons, List.map_nil, List.cons_append, List.nil_append, List.length_cons, List.length_nil, List.replicate, Nat.reduceAdd, Nat.reduceSub, Nat.zero_add, reduceIte, Bool.false_eq_true, Bool.true_eq_false, Bool.false_bne, Bool.true_bne, Bool.not_true, Bool.not_false, Bool.not_not, List.reverse_cons, List.reverse_nil, Option.map_some, Option.map_none, up_same, uSet, atI_zero, atI_one, ixN_20, ixN_zero, List.set_cons_zero, uPow, t7__law_bent_sound, trG, Mth.T, Mth.fn]
  refine ix_sq (.inr ⟨_, rfl, (s9.at_ _ List.mem_cons_self).1⟩) atw ?_
  rw [show Str.ofString "*" = SX.S [42] from rfl]
  simp only [inH_xc, inH_fn, inH_gl, trJ, uFmt, uXf, uXi, gam_hf, gam_xc, tab_kin, trSs, trS, trE, trT, trX, pl, trA, trO, trC, trI, uBin_s, uUn_s, uVar_s, uC_s, getS, setS, uOp, uAdd, uSub, uMul, uDiv, uMod, uPow, uNeg, uCmp, uEqF, uLt, uLe, uGt, uGe, uIsF, isNonU, uTru, Blt.fn, uAbs, uMax2, uMin2, uInt, startU, gam_fn, gam_gl, tab_xcs, tab_sub, UD_nx, UD_rt, UD_bk, UD_ct, UD_ex, spAt, glAt, gls, List.map_cons, List.map_nil, List.cons_append, List.nil_append, List.length_cons, List.length_nil, List.replicate, Nat.reduceAdd, Nat.reduceSub, Nat.zero_add, reduceIte, Bool.false_eq_true, Bool.true_eq_false, Bool.false_bne, Bool.true_bne, Bool.not_true, Bool.not_false, Bool.not_not, List.reverse_cons, List.reverse_nil, Option.map_some, Option.map_none, up_same, uSet, atI_zero, atI_one, ixN_20, ixN_zero, List.set_cons_zero, uPow, mTy]
  rw [split_1 (by decide)]
  refine ⟨trivial, rfl, by rw [SX.S_len]; omega, fun Hh hHh => ?_⟩
  have hok_w := hpk w hwm
  have hb2 := fun (x : List Nat) (hx : x ∈ TL.spl [42] 0 [] w) => spl_len (by decide) hx
  have hpk2 := okc_spl (c := 42) (by decide) hok_w
  have hne2 := spl_ne (c := 42) (by decide) w
  generalize TL.spl [42] 0 [] w = hs at hb2 hpk2 hne2 ⊢
  have s10 := s9.push (us := wU hs) hHh
  generalize UL.up G9 Hh _ = G10 at s10 ⊢
  obtain ⟨b, hbl⟩ : ∃ b, hs.getLast? = some b := ⟨_, List.getLast?_eq_some_getLast hne2⟩
  have hbm : b ∈ hs := List.mem_of_getLast? hbl
  simp only [inH_xc, inH_fn, inH_gl, trJ, uFmt, uXf, uXi, gam_hf, gam_xc, tab_kin, trSs, trS, trE, trT, trX, pl, trA, trO, trC, trI, uBin_s, uUn_s, uVar_s, uC_s, getS, setS, uOp, uAdd, uSub, uMul, uDiv, uMod, uPow, uNeg, uCmp, uEqF, uLt, uLe, uGt, uGe, uIsF, isNonU, uTru, Blt.fn, uAbs, uMax2, uMin2, uInt, startU, gam_fn, gam_gl, tab_xcs, tab_sub, UD_nx, UD_rt, UD_bk, UD_ct, UD_ex, spAt, glAt, gls, List.map_cons, List.map_nil, List.cons_append, List.nil_append, List.length_cons, List.length_nil, List.replicate, Nat.reduceAdd, Nat.reduceSub, Nat.zero_add, reduceIte, Bool.false_eq_true, Bool.true_eq_false, Bool.false_bne, Bool.true_bne, Bool.not_true, Bool.not_false, Bool.not_not, List.reverse_cons, List.reverse_nil, Option.map_some, Option.map_none, up_same, uSet, atI_zero, atI_one, ixN_20, ixN_zero, List.set_cons_zero, uPow, t6__law_bent_sound, trG, cl__law_bent_sound]
  refine ix_sq (.inr ⟨_, rfl, (s10.at_ _ List.mem_cons_self).1⟩) (last_at (u := .str (SX.S b)) (by rw [wU, List.getLast?_map, List.getLast?_map, hbl]; rfl)) ?_
  refine ⟨b, 20000, rfl, by have := hb2 b hbm; omega, ?_⟩
  -- words[:place] + [x] + words[place + 1:], joined
  have hwt : ∀ x : List Nat, x.length ≤ 20100 → x.all okc = true → wt (ps.take pl_ ++ [x] ++ ps.drop (pl_ + 1)) ≤ 100000 ∧ ∀ y ∈ ps.take pl_ ++ [x] ++ ps.drop (pl_ + 1), y.all okc = true := by
    intro x hx hx2
    have h1 := wt_take ps pl_
    have h2 := wt_drop ps (pl_ + 1)
    have h3 : wt [x] = x.length + 1 := by simp [wt]
    refine ⟨by rw [wt_app, wt_app, h3]; omega, fun y hy => ?_⟩
    simp only [List.mem_append, List.mem_cons, List.mem_nil_iff, or_false] at hy
    rcases hy with (hy | rfl) | hy
    · exact hpk y (List.mem_of_mem_take hy)
    · exact hx2
    · exact hpk y (List.mem_of_mem_drop hy)
  have wl1 : (ps.take pl_).length ≤ 5001 := by rw [List.length_take]; omega
  have wl2 : (ps.drop (pl_ + 1)).length ≤ 5001 := by rw [List.length_drop]; omega
  have wl3 : (ps.take (pl_ + 1)).length ≤ 5001 := by rw [List.length_take]; omega
  have wl4 : (ps.drop pl_).length ≤ 5001 := by rw [List.length_drop]; omega
  have later : ∀ (o9 o10 o11 : Option U) GZ, St p g G [(Hh, wU hs), (R, wU ps)] GZ → trSs (TB cl__law_bent_sound) (GM cl__law_bent_sound) t4__law_bent_sound (UD Q E) [some (.ref p), some (.str (SX.S l)), some (.int at_), some (.str (SX.S sg)), some (.ref R), some (.int pl_), some (.str (SX.S nr)), some whole, some (.ref Hh), o9, o10, o11] GZ := by
    intro o9 o10 o11 GZ sz
    simp only [inH_xc, inH_fn, inH_gl, trJ, uFmt, uXf, uXi, gam_hf, gam_xc, tab_kin, trSs, trS, trE, trT, trX, pl, trA, trO, trC, trI, uBin_s, uUn_s, uVar_s, uC_s, getS, setS, uNeg, uIsF, isNonU, uTru, Blt.fn, uAbs, uMax2, uMin2, uInt, startU, gam_fn, gam_gl, tab_xcs, tab_sub, UD_nx, UD_rt, UD_bk, UD_ct, UD_ex, spAt, glAt, gls, List.map_cons, List.map_nil, List.cons_append, List.nil_append, List.length_cons, List.length_nil, List.replicate, Nat.reduceAdd, Nat.reduceSub, Nat.zero_add, reduceIte, Bool.false_eq_true, Bool.true_eq_false, Bool.false_bne, Bool.true_bne, Bool.not_true, Bool.not_false, Bool.not_not, List.reverse_cons, List.reverse_nil, Option.map_some, Option.map_none, up_same, uSet, atI_zero, atI_one, ixN_20, ixN_zero, List.set_cons_zero, t4__law_bent_sound, trG, oAdd_i]
    refine sl_to (by omega) ?_
    refine add_str (by rw [List.length_take]; omega) ?_
    refine sl_from (by omega) ?_
    refine add_str (by simp; omega) ?_
    refine sl_to (by omega) ?_
    refine add_str (by rw [List.length_take]; omega) ?_
    refine sl_from1 (by omega) ?_
    refine add_str (by simp; omega) ?_
    refine sl_to (by omega) ?_
    refine sl_from1 (by omega) ?_
    refine add_str (by simp; omega) ?_
    refine ⟨rfl, ?_⟩
    refine sl_lto1 (sz.at_ (R, wU ps) (by simp)).1 fun b1 hb1 => ?_
    have sz := sz.push (us := wU (ps.take (pl_ + 1))) hb1
    generalize UL.up GZ b1 _ = GA at sz ⊢
    refine sl_lfrom (sz.at_ (R, wU ps) (by simp)).1 fun b2 hb2 => ?_
    have sz := sz.push (us := wU (ps.drop pl_)) hb2
    generalize UL.up GA b2 _ = GB at sz ⊢
    refine add_ref (sz.at_ (b1, wU (ps.take (pl_ + 1))) (by simp)).1 (sz.at_ (b2, wU (ps.drop pl_)) (by simp)).1 (by simp only [List.length_map]; omega) fun b3 hb3 => ?_
    rw [wU_app]
    have sz := sz.push (us := wU (ps.take (pl_ + 1) ++ ps.drop pl_)) hb3
    generalize UL.up GB b3 _ = GC at sz ⊢
    have wt3 : wt (ps.take (pl_ + 1) ++ ps.drop pl_) ≤ 100000 := by
      have h1 := wt_take ps (pl_ + 1)
      have h2 := wt_drop ps pl_
      rw [wt_app]
      omega
    have ok3 : ∀ y ∈ ps.take (pl_ + 1) ++ ps.drop pl_, y.all okc = true := fun y hy => by
      rcases List.mem_append.mp hy with hy | hy
      · exact hpk y (List.mem_of_mem_take hy)
      · exact hpk y (List.mem_of_mem_drop hy)
    refine join_ok (sz.at_ (b3, wU (ps.take (pl_ + 1) ++ ps.drop pl_)) (by simp)).1 wt3 ?_
    have j1 := okj ok3 wt3
    generalize U.str (SX.S (TL.joinL [32] (ps.take (pl_ + 1) ++ ps.drop pl_))) = v4 at j1 ⊢
    have i1 : OkS 100000 (.str (SX.S (l.take at_ ++ sg ++ l.drop at_))) := ⟨_, rfl, by rw [List.all_append, List.all_append, okc_take hok, okc_drop hok, sg1]; rfl, by simp; omega⟩
    have i2 : OkS 100000 (.str (SX.S (l.take at_ ++ sg ++ l.drop (at_ + 1)))) := ⟨_, rfl, by rw [List.all_append, List.all_append, okc_take hok, okc_drop hok, sg1]; rfl, by simp; omega⟩
    have i3 : OkS 100000 (.str (SX.S (l.take at_ ++ l.drop (at_ + 1)))) := ⟨_, rfl, by rw [List.all_append, okc_take hok, okc_drop hok]; rfl, by simp; omega⟩
    generalize U.str (SX.S (l.take at_ ++ sg ++ l.drop at_)) = v1 at i1 ⊢
    generalize U.str (SX.S (l.take at_ ++ sg ++ l.drop (at_ + 1))) = v2 at i2 ⊢
    generalize U.str (SX.S (l.take at_ ++ l.drop (at_ + 1))) = v3 at i3 ⊢
    refine ⟨by omega, fun M hM => ?_⟩
    have sz := sz.push (us := [v1, v2, v3, v4]) hM
    generalize UL.up GC M _ = GD at sz ⊢
    simp only [inH_xc, inH_fn, inH_gl, trJ, uFmt, uXf, uXi, gam_hf, gam_xc, tab_kin, trSs, trS, trE, trT, trX, pl, trA, trO, trC, trI, uBin_s, uUn_s, uVar_s, uC_s, getS, setS, uNeg, uIsF, isNonU, uTru, Blt.fn, uAbs, uMax2, uMin2, uInt, startU, gam_fn, gam_gl, tab_xcs, tab_sub, UD_nx, UD_rt, UD_bk, UD_ct, UD_ex, spAt, glAt, gls, List.map_cons, List.map_nil, List.cons_append, List.nil_append, List.length_cons, List.length_nil, List.replicate, Nat.reduceAdd, Nat.reduceSub, Nat.zero_add, reduceIte, Bool.false_eq_true, Bool.true_eq_false, Bool.false_bne, Bool.true_bne, Bool.not_true, Bool.not_false, Bool.not_not, List.reverse_cons, List.reverse_nil, Option.map_some, Option.map_none, up_same, uSet, atI_zero, atI_one, ixN_20, ixN_zero, List.set_cons_zero, t3__law_bent_sound, cl__law_bent_sound, oAdd_i]
    refine ⟨rfl, ?_⟩
    refine sl_lto (sz.at_ (R, wU ps) (by simp)).1 fun c1 hc1 => ?_
    have sz := sz.push (us := wU (ps.take pl_)) hc1
    generalize UL.up GD c1 _ = GE at sz ⊢
    refine sl_lfrom1 (sz.at_ (R, wU ps) (by simp)).1 fun c2 hc2 => ?_
    have sz := sz.push (us := wU (ps.drop (pl_ + 1))) hc2
    generalize UL.up GE c2 _ = GF at sz ⊢
    refine add_ref (sz.at_ (c1, wU (ps.take pl_)) (by simp)).1 (sz.at_ (c2, wU (ps.drop (pl_ + 1))) (by simp)).1 (by simp only [List.length_map]; omega) fun c3 hc3 => ?_
    rw [wU_app]
    have sz := sz.push (us := wU (ps.take pl_ ++ ps.drop (pl_ + 1))) hc3
    generalize UL.up GF c3 _ = GG at sz ⊢
    have wt4 : wt (ps.take pl_ ++ ps.drop (pl_ + 1)) ≤ 100000 := by
      have h1 := wt_take ps pl_
      have h2 := wt_drop ps (pl_ + 1)
      rw [wt_app]
      omega
    have ok4 : ∀ y ∈ ps.take pl_ ++ ps.drop (pl_ + 1), y.all okc = true := fun y hy => by
      rcases List.mem_append.mp hy with hy | hy
      · exact hpk y (List.mem_of_mem_take hy)
      · exact hpk y (List.mem_of_mem_drop hy)
    refine join_ok (sz.at_ (c3, wU (ps.take pl_ ++ ps.drop (pl_ + 1))) (by simp)).1 wt4 ?_
    have j2 := okj ok4 wt4
    generalize U.str (SX.S (TL.joinL [32] (ps.take pl_ ++ ps.drop (pl_ + 1)))) = v5 at j2 ⊢
    refine ⟨rfl, ?_⟩
    refine sl_lto (sz.at_ (R, wU ps) (by simp)).1 fun d1 hd1 => ?_
    have sz := sz.push (us := wU (ps.take pl_)) hd1
    generalize UL.up GG d1 _ = GH at sz ⊢
    refine ⟨by omega, fun d2 hd2 => ?_⟩
    have sz := sz.push (us := [U.str (SX.S nr)]) hd2
    generalize UL.up GH d2 _ = GI at sz ⊢
    refine add_ref (sz.at_ (d1, wU (ps.take pl_)) (by simp)).1 (sz.at_ (d2, [U.str (SX.S nr)]) (by simp)).1 (by simp only [List.length_map, List.length_cons, List.length_nil]; omega) fun d3 hd3 => ?_
    rw [show wU (ps.take pl_) ++ [U.str (SX.S nr)] = wU (ps.take pl_ ++ [nr]) from wU_app _ [nr]]
    have sz := sz.push (us := wU (ps.take pl_ ++ [nr])) hd3
    generalize UL.up GI d3 _ = GJ at sz ⊢
    refine sl_lfrom1 (sz.at_ (R, wU ps) (by simp)).1 fun d4 hd4 => ?_
    have sz := sz.push (us := wU (ps.drop (pl_ + 1))) hd4
    generalize UL.up GJ d4 _ = GK at sz ⊢
    refine add_ref (sz.at_ (d3, wU (ps.take pl_ ++ [nr])) (by simp)).1 (sz.at_ (d4, wU (ps.drop (pl_ + 1))) (by simp)).1 (by simp only [List.length_map, List.length_append, List.length_cons, List.length_nil]; omega) fun d5 hd5 => ?_
    rw [wU_app]
    have sz := sz.push (us := wU (ps.take pl_ ++ [nr] ++ ps.drop (pl_ + 1))) hd5
    generalize UL.up GK d5 _ = GL at sz ⊢
    obtain ⟨wt5, ok5⟩ := hwt nr (by omega) nr1
    refine join_ok (sz.at_ (d5, wU (ps.take pl_ ++ [nr] ++ ps.drop (pl_ + 1))) (by simp)).1 wt5 ?_
    have j3 := okj ok5 wt5
    generalize U.str (SX.S (TL.joinL [32] (ps.take pl_ ++ [nr] ++ ps.drop (pl_ + 1)))) = v6 at j3 ⊢
    refine ⟨by omega, fun N hN => ?_⟩
    have sz := sz.push (us := [v5, whole, v6]) hN
    generalize UL.up GL N _ = GM_ at sz ⊢
    refine add_ref (sz.at_ (M, [v1, v2, v3, v4]) (by simp)).1 (sz.at_ (N, [v5, whole, v6]) (by simp)).1 (by simp) fun O hO => ?_
    have sz := sz.push (us := [v1, v2, v3, v4] ++ [v5, whole, v6]) hO
    generalize UL.up GM_ O _ = GN at sz ⊢
    refine pick_st sz List.mem_cons_self (by simp) (by simp) fun u GO hu sO => ?_
    refine fin.of (q u GO ?_ sO.dk sO.fr)
    simp only [List.mem_append, List.mem_cons, List.mem_nil_iff, or_false] at hu
    rcases hu with (rfl | rfl | rfl | rfl) | (rfl | rfl | rfl)
    · exact i1
    · exact i2
    · exact i3
    · exact j1
    · exact j2
    · exact hwh
    · exact j3
  cases em : numM b 20000 with
  | none =>
    simp only [inH_xc, inH_fn, inH_gl, trJ, uFmt, uXf, uXi, gam_hf, gam_xc, tab_kin, trSs, trS, trE, trT, trX, pl, trA, trO, trC, trI, uBin_s, uUn_s, uVar_s, uC_s, getS, setS, uNeg, uIsF, isNonU, uTru, Blt.fn, uAbs, uMax2, uMin2, uInt, startU, gam_fn, gam_gl, tab_xcs, tab_sub, UD_nx, UD_rt, UD_bk, UD_ct, UD_ex, spAt, glAt, gls, List.map_cons, List.map_nil, List.cons_append, List.nil_append, List.length_cons, List.length_nil, List.replicate, Nat.reduceAdd, Nat.reduceSub, Nat.zero_add, reduceIte, Bool.false_eq_true, Bool.true_eq_false, Bool.false_bne, Bool.true_bne, Bool.not_true, Bool.not_false, Bool.not_not, List.reverse_cons, List.reverse_nil, Option.map_some, Option.map_none, up_same, uSet, atI_zero, atI_one, ixN_20, ixN_zero, List.set_cons_zero, optN, t5__law_bent_sound, cl__law_bent_sound]
    refine len_sq (.inr ⟨_, rfl, (s10.at_ _ List.mem_cons_self).1⟩) ?_
    rw [List.length_map, List.length_map]
    simp only [inH_xc, inH_fn, inH_gl, trJ, uFmt, uXf, uXi, gam_hf, gam_xc, tab_kin, trSs, trS, trE, trT, trX, pl, trA, trO, trC, trI, uBin_s, uUn_s, uVar_s, uC_s, getS, setS, uNeg, uIsF, isNonU, uTru, Blt.fn, uAbs, uMax2, uMin2, uInt, startU, gam_fn, gam_gl, tab_xcs, tab_sub, UD_nx, UD_rt, UD_bk, UD_ct, UD_ex, spAt, glAt, gls, List.map_cons, List.map_nil, List.cons_append, List.nil_append, List.length_cons, List.length_nil, List.replicate, Nat.reduceAdd, Nat.reduceSub, Nat.zero_add, reduceIte, Bool.false_eq_true, Bool.true_eq_false, Bool.false_bne, Bool.true_bne, Bool.not_true, Bool.not_false, Bool.not_not, List.reverse_cons, List.reverse_nil, Option.map_some, Option.map_none, up_same, uSet, atI_zero, atI_one, ixN_20, ixN_zero, List.set_cons_zero, cEq_i]
    by_cases h2 : ((hs.length : Nat) : Int) = 2
    · simp only [inH_xc, inH_fn, inH_gl, trJ, uFmt, uXf, uXi, gam_hf, gam_xc, tab_kin, trSs, trS, trE, trT, trX, pl, trA, trO, trC, trI, uBin_s, uUn_s, uVar_s, uC_s, getS, setS, uNeg, uIsF, isNonU, uTru, Blt.fn, uAbs, uMax2, uMin2, uInt, startU, gam_fn, gam_gl, tab_xcs, tab_sub, UD_nx, UD_rt, UD_bk, UD_ct, UD_ex, spAt, glAt, gls, List.map_cons, List.map_nil, List.cons_append, List.nil_append, List.length_cons, List.length_nil, List.replicate, Nat.reduceAdd, Nat.reduceSub, Nat.zero_add, reduceIte, Bool.false_eq_true, Bool.true_eq_false, Bool.false_bne, Bool.true_bne, Bool.not_true, Bool.not_false, Bool.not_not, List.reverse_cons, List.reverse_nil, Option.map_some, Option.map_none, up_same, uSet, atI_zero, atI_one, ixN_20, ixN_zero, List.set_cons_zero, h2, decide_true, cNotN_n]
      exact later _ _ _ _ s10
    · simp only [inH_xc, inH_fn, inH_gl, trJ, uFmt, uXf, uXi, gam_hf, gam_xc, tab_kin, trSs, trS, trE, trT, trX, pl, trA, trO, trC, trI, uBin_s, uUn_s, uVar_s, uC_s, getS, setS, uNeg, uIsF, isNonU, uTru, Blt.fn, uAbs, uMax2, uMin2, uInt, startU, gam_fn, gam_gl, tab_xcs, tab_sub, UD_nx, UD_rt, UD_bk, UD_ct, UD_ex, spAt, glAt, gls, List.map_cons, List.map_nil, List.cons_append, List.nil_append, List.length_cons, List.length_nil, List.replicate, Nat.reduceAdd, Nat.reduceSub, Nat.zero_add, reduceIte, Bool.false_eq_true, Bool.true_eq_false, Bool.false_bne, Bool.true_bne, Bool.not_true, Bool.not_false, Bool.not_not, List.reverse_cons, List.reverse_nil, Option.map_some, Option.map_none, up_same, uSet, atI_zero, atI_one, ixN_20, ixN_zero, List.set_cons_zero, h2, decide_false]
      exact later _ _ _ _ s10
  | some m =>
    have hm : m ≤ 20000 := by
      unfold numM at em
      cases ef : figs b with
      | none => rw [ef] at em; cases em
      | some k =>
        rw [ef] at em
        simp only at em
        split at em
        · cases em
        · cases em; omega
    simp only [inH_xc, inH_fn, inH_gl, trJ, uFmt, uXf, uXi, gam_hf, gam_xc, tab_kin, trSs, trS, trE, trT, trX, pl, trA, trO, trC, trI, uBin_s, uUn_s, uVar_s, uC_s, getS, setS, uNeg, uIsF, isNonU, uTru, Blt.fn, uAbs, uMax2, uMin2, uInt, startU, gam_fn, gam_gl, tab_xcs, tab_sub, UD_nx, UD_rt, UD_bk, UD_ct, UD_ex, spAt, glAt, gls, List.map_cons, List.map_nil, List.cons_append, List.nil_append, List.length_cons, List.length_nil, List.replicate, Nat.reduceAdd, Nat.reduceSub, Nat.zero_add, reduceIte, Bool.false_eq_true, Bool.true_eq_false, Bool.false_bne, Bool.true_bne, Bool.not_true, Bool.not_false, Bool.not_not, List.reverse_cons, List.reverse_nil, Option.map_some, Option.map_none, up_same, uSet, atI_zero, atI_one, ixN_20, ixN_zero, List.set_cons_zero, optN, t5__law_bent_sound, cl__law_bent_sound]
    refine len_sq (.inr ⟨_, rfl, (s10.at_ _ List.mem_cons_self).1⟩) ?_
    rw [List.length_map, List.length_map]
    simp only [inH_xc, inH_fn, inH_gl, trJ, uFmt, uXf, uXi, gam_hf, gam_xc, tab_kin, trSs, trS, trE, trT, trX, pl, trA, trO, trC, trI, uBin_s, uUn_s, uVar_s, uC_s, getS, setS, uNeg, uIsF, isNonU, uTru, Blt.fn, uAbs, uMax2, uMin2, uInt, startU, gam_fn, gam_gl, tab_xcs, tab_sub, UD_nx, UD_rt, UD_bk, UD_ct, UD_ex, spAt, glAt, gls, List.map_cons, List.map_nil, List.cons_append, List.nil_append, List.length_cons, List.length_nil, List.replicate, Nat.reduceAdd, Nat.reduceSub, Nat.zero_add, reduceIte, Bool.false_eq_true, Bool.true_eq_false, Bool.false_bne, Bool.true_bne, Bool.not_true, Bool.not_false, Bool.not_not, List.reverse_cons, List.reverse_nil, Option.map_some, Option.map_none, up_same, uSet, atI_zero, atI_one, ixN_20, ixN_zero, List.set_cons_zero, cEq_i]
    by_cases h2 : ((hs.length : Nat) : Int) = 2
    · simp only [inH_xc, inH_fn, inH_gl, trJ, uFmt, uXf, uXi, gam_hf, gam_xc, tab_kin, trSs, trS, trE, trT, trX, pl, trA, trO, trC, trI, uBin_s, uUn_s, uVar_s, uC_s, getS, setS, uNeg, uIsF, isNonU, uTru, Blt.fn, uAbs, uMax2, uMin2, uInt, startU, gam_fn, gam_gl, tab_xcs, tab_sub, UD_nx, UD_rt, UD_bk, UD_ct, UD_ex, spAt, glAt, gls, List.map_cons, List.map_nil, List.cons_append, List.nil_append, List.length_cons, List.length_nil, List.replicate, Nat.reduceAdd, Nat.reduceSub, Nat.zero_add, reduceIte, Bool.false_eq_true, Bool.true_eq_false, Bool.false_bne, Bool.true_bne, Bool.not_true, Bool.not_false, Bool.not_not, List.reverse_cons, List.reverse_nil, Option.map_some, Option.map_none, up_same, uSet, atI_zero, atI_one, ixN_20, ixN_zero, List.set_cons_zero, h2, decide_true, cNotN_i]
      refine take_st s10 (by decide) (by decide) fun r2 G11 hr2 s11 => ?_
      simp only [inH_xc, inH_fn, inH_gl, trJ, uFmt, uXf, uXi, gam_hf, gam_xc, tab_kin, trSs, trS, trE, trT, trX, pl, trA, trO, trC, trI, uBin_s, uUn_s, uVar_s, uC_s, getS, setS, uNeg, uIsF, isNonU, uTru, Blt.fn, uAbs, uMax2, uMin2, uInt, startU, gam_fn, gam_gl, tab_xcs, tab_sub, UD_nx, UD_rt, UD_bk, UD_ct, UD_ex, spAt, glAt, gls, List.map_cons, List.map_nil, List.cons_append, List.nil_append, List.length_cons, List.length_nil, List.replicate, Nat.reduceAdd, Nat.reduceSub, Nat.zero_add, reduceIte, Bool.false_eq_true, Bool.true_eq_false, Bool.false_bne, Bool.true_bne, Bool.not_true, Bool.not_false, Bool.not_not, List.reverse_cons, List.reverse_nil, Option.map_some, Option.map_none, up_same, uSet, atI_zero, atI_one, ixN_20, ixN_zero, List.set_cons_zero, cEq_i]
      by_cases hz : (r2 : Int) = 0
      · simp only [inH_xc, inH_fn, inH_gl, trJ, uFmt, uXf, uXi, gam_hf, gam_xc, tab_kin, trSs, trS, trE, trT, trX, pl, trA, trO, trC, trI, uBin_s, uUn_s, uVar_s, uC_s, getS, setS, uNeg, uIsF, isNonU, uTru, Blt.fn, uAbs, uMax2, uMin2, uInt, startU, gam_fn, gam_gl, tab_xcs, tab_sub, UD_nx, UD_rt, UD_bk, UD_ct, UD_ex, spAt, glAt, gls, List.map_cons, List.map_nil, List.cons_append, List.nil_append, List.length_cons, List.length_nil, List.replicate, Nat.reduceAdd, Nat.reduceSub, Nat.zero_add, reduceIte, Bool.false_eq_true, Bool.true_eq_false, Bool.false_bne, Bool.true_bne, Bool.not_true, Bool.not_false, Bool.not_not, List.reverse_cons, List.reverse_nil, Option.map_some, Option.map_none, up_same, uSet, atI_zero, atI_one, ixN_20, ixN_zero, List.set_cons_zero, hz, decide_true, oSub_i]
        obtain ⟨a, rfl⟩ : ∃ a, hs = [a, b] := by
          have h2' : hs.length = 2 := by omega
          match hs, h2' with
          | [x, y], _ => exact ⟨x, by have : y = b := by simpa using hbl
                                      rw [this]⟩
        have ha : a.length ≤ 5000 := by have := hb2 a (by simp); omega
        have hbn : b.length ≤ 5000 := by have := hb2 b (by simp); omega
        have oka := hpk2 a (by simp)
        have okb := hpk2 b (by simp)
        have eH : SqU G11 (.ref Hh) [U.str (SX.S a), U.str (SX.S b)] := .inr ⟨_, rfl, (s11.at_ (Hh, wU [a, b]) (by simp)).1⟩
        refine ix_sq eH atI_zero ?_
        rw [show Str.ofString "*1 " = SX.S [42, 49, 32] from rfl, show Str.ofString "*" = SX.S [42] from rfl]
        refine add_str (by simp; omega) ?_
        refine ix_sq eH atI_zero ?_
        refine add_str (by simp; omega) ?_
        refine add_str (by simp; omega) ?_
        have hwm2 := worthL_len (i := (m : Int) - 1) (by omega) (by omega)
        unfold uStr
        refine ⟨log2_small (by omega), ?_⟩
        rw [int_S]
        refine add_str (by simp; omega) ?_
        have okp : (a ++ [42, 49, 32] ++ a ++ [42] ++ worthL ((m : Int) - 1)).all okc = true := by
          rw [List.all_append, List.all_append, List.all_append, List.all_append, oka, okc_worth]
          rfl
        have lnp : (a ++ [42, 49, 32] ++ a ++ [42] ++ worthL ((m : Int) - 1)).length ≤ 20100 := by simp; omega
        generalize a ++ [42, 49, 32] ++ a ++ [42] ++ worthL ((m : Int) - 1) = pt at okp lnp ⊢
        simp only [inH_xc, inH_fn, inH_gl, trJ, uFmt, uXf, uXi, gam_hf, gam_xc, tab_kin, trSs, trS, trE, trT, trX, pl, trA, trO, trC, trI, uBin_s, uUn_s, uVar_s, uC_s, getS, setS, uNeg, uIsF, isNonU, uTru, Blt.fn, uAbs, uMax2, uMin2, uInt, startU, gam_fn, gam_gl, tab_xcs, tab_sub, UD_nx, UD_rt, UD_bk, UD_ct, UD_ex, spAt, glAt, gls, List.map_cons, List.map_nil, List.cons_append, List.nil_append, List.length_cons, List.length_nil, List.replicate, Nat.reduceAdd, Nat.reduceSub, Nat.zero_add, reduceIte, Bool.false_eq_true, Bool.true_eq_false, Bool.false_bne, Bool.true_bne, Bool.not_true, Bool.not_false, Bool.not_not, List.reverse_cons, List.reverse_nil, Option.map_some, Option.map_none, up_same, uSet, atI_zero, atI_one, ixN_20, ixN_zero, List.set_cons_zero, t2__law_bent_sound, trG, cl__law_bent_sound]
        have eR : SqU G11 (.ref R) (wU ps) := .inr ⟨_, rfl, (s11.at_ (R, wU ps) (by simp)).1⟩
        rw [show Str.ofString "0" = SX.S [48] from rfl, show Str.ofString "*0" = SX.S [42, 48] from rfl, show Str.ofString " " = SX.S [32] from rfl, show Str.ofString "-" = SX.S [45] from rfl]
        refine ix_sq eR atw ?_
        refine add_str (by simp; omega) ?_
        refine ix_sq eH atI_zero ?_
        refine add_str (by simp; omega) ?_
        refine ix_sq eH atI_one ?_
        refine add_str (by simp; omega) ?_
        refine ix_sq eR atw ?_
        refine add_str (by simp; omega) ?_
        refine ix_sq eH atI_zero ?_
        refine add_str (by simp; omega) ?_
        refine add_str (by simp; omega) ?_
        refine ix_sq eR atw ?_
        refine add_str (by simp; omega) ?_
        have k1 : OkS 20100 (.str (SX.S pt)) := ⟨_, rfl, okp, lnp⟩
        have k2 : OkS 20100 (.str (SX.S ([48] ++ w))) := ⟨_, rfl, by rw [List.all_append, hok_w]; rfl, by simp; omega⟩
        have k3 : OkS 20100 (.str (SX.S (a ++ [42, 48] ++ b))) := ⟨_, rfl, by rw [List.all_append, List.all_append, oka, okb]; rfl, by simp; omega⟩
        have k4 : OkS 20100 (.str (SX.S (w ++ [32] ++ a ++ [42, 48]))) := ⟨_, rfl, by rw [List.all_append, List.all_append, List.all_append, oka, hok_w]; rfl, by simp; omega⟩
        have k5 : OkS 20100 (.str (SX.S ([45] ++ w))) := ⟨_, rfl, by rw [List.all_append, hok_w]; rfl, by simp; omega⟩
        generalize U.str (SX.S ([48] ++ w)) = v2 at k2 ⊢
        generalize U.str (SX.S (a ++ [42, 48] ++ b)) = v3 at k3 ⊢
        generalize U.str (SX.S (w ++ [32] ++ a ++ [42, 48])) = v4 at k4 ⊢
        generalize U.str (SX.S ([45] ++ w)) = v5 at k5 ⊢
        refine ⟨by omega, fun N hN => ?_⟩
        have s12 := s11.push (us := [U.str (SX.S pt), U.str (SX.S pt), v2, v3, v4, v5]) hN
        generalize UL.up G11 N _ = G12 at s12 ⊢
        refine pick_st s12 List.mem_cons_self (by simp) (by simp) fun u G13 hu s13 => ?_
        have hku : OkS 20100 u := by
          simp only [List.mem_cons, List.mem_nil_iff, or_false] at hu
          rcases hu with rfl | rfl | rfl | rfl | rfl | rfl
          · exact k1
          · exact k1
          · exact k2
          · exact k3
          · exact k4
          · exact k5
        obtain ⟨x, rfl, x1, x2⟩ := hku
        have sz := s13.pop
        simp only [inH_xc, inH_fn, inH_gl, trJ, uFmt, uXf, uXi, gam_hf, gam_xc, tab_kin, trSs, trS, trE, trT, trX, pl, trA, trO, trC, trI, uBin_s, uUn_s, uVar_s, uC_s, getS, setS, uNeg, uIsF, isNonU, uTru, Blt.fn, uAbs, uMax2, uMin2, uInt, startU, gam_fn, gam_gl, tab_xcs, tab_sub, UD_nx, UD_rt, UD_bk, UD_ct, UD_ex, spAt, glAt, gls, List.map_cons, List.map_nil, List.cons_append, List.nil_append, List.length_cons, List.length_nil, List.replicate, Nat.reduceAdd, Nat.reduceSub, Nat.zero_add, reduceIte, Bool.false_eq_true, Bool.true_eq_false, Bool.false_bne, Bool.true_bne, Bool.not_true, Bool.not_false, Bool.not_not, List.reverse_cons, List.reverse_nil, Option.map_some, Option.map_none, up_same, uSet, atI_zero, atI_one, ixN_20, ixN_zero, List.set_cons_zero, t1__law_bent_sound, trG, oAdd_i]
        refine ⟨rfl, ?_⟩
        refine sl_lto (sz.at_ (R, wU ps) (by simp)).1 fun d1 hd1 => ?_
        have sz := sz.push (us := wU (ps.take pl_)) hd1
        generalize UL.up G13 d1 _ = GH at sz ⊢
        refine ⟨by omega, fun d2 hd2 => ?_⟩
        have sz := sz.push (us := [U.str (SX.S x)]) hd2
        generalize UL.up GH d2 _ = GI at sz ⊢
        refine add_ref (sz.at_ (d1, wU (ps.take pl_)) (by simp)).1 (sz.at_ (d2, [U.str (SX.S x)]) (by simp)).1 (by simp only [List.length_map, List.length_cons, List.length_nil]; omega) fun d3 hd3 => ?_
        rw [show wU (ps.take pl_) ++ [U.str (SX.S x)] = wU (ps.take pl_ ++ [x]) from wU_app _ [x]]
        have sz := sz.push (us := wU (ps.take pl_ ++ [x])) hd3
        generalize UL.up GI d3 _ = GJ at sz ⊢
        refine sl_lfrom1 (sz.at_ (R, wU ps) (by simp)).1 fun d4 hd4 => ?_
        have sz := sz.push (us := wU (ps.drop (pl_ + 1))) hd4
        generalize UL.up GJ d4 _ = GK at sz ⊢
        refine add_ref (sz.at_ (d3, wU (ps.take pl_ ++ [x])) (by simp)).1 (sz.at_ (d4, wU (ps.drop (pl_ + 1))) (by simp)).1 (by simp only [List.length_map, List.length_append, List.length_cons, List.length_nil]; omega) fun d5 hd5 => ?_
        rw [wU_app]
        have sz := sz.push (us := wU (ps.take pl_ ++ [x] ++ ps.drop (pl_ + 1))) hd5
        generalize UL.up GK d5 _ = GL at sz ⊢
        obtain ⟨wt5, ok5⟩ := hwt x (by omega) x1
        refine join_ok (sz.at_ (d5, wU (ps.take pl_ ++ [x] ++ ps.drop (pl_ + 1))) (by simp)).1 wt5 ?_
        exact fin.of (q _ GL (okj ok5 wt5) sz.dk sz.fr)
      · simp only [inH_xc, inH_fn, inH_gl, trJ, uFmt, uXf, uXi, gam_hf, gam_xc, tab_kin, trSs, trS, trE, trT, trX, pl, trA, trO, trC, trI, uBin_s, uUn_s, uVar_s, uC_s, getS, setS, uNeg, uIsF, isNonU, uTru, Blt.fn, uAbs, uMax2, uMin2, uInt, startU, gam_fn, gam_gl, tab_xcs, tab_sub, UD_nx, UD_rt, UD_bk, UD_ct, UD_ex, spAt, glAt, gls, List.map_cons, List.map_nil, List.cons_append, List.nil_append, List.length_cons, List.length_nil, List.replicate, Nat.reduceAdd, Nat.reduceSub, Nat.zero_add, reduceIte, Bool.false_eq_true, Bool.true_eq_false, Bool.false_bne, Bool.true_bne, Bool.not_true, Bool.not_false, Bool.not_not, List.reverse_cons, List.reverse_nil, Option.map_some, Option.map_none, up_same, uSet, atI_zero, atI_one, ixN_20, ixN_zero, List.set_cons_zero, hz, decide_false]
        exact later _ _ _ _ s11
    · simp only [inH_xc, inH_fn, inH_gl, trJ, uFmt, uXf, uXi, gam_hf, gam_xc, tab_kin, trSs, trS, trE, trT, trX, pl, trA, trO, trC, trI, uBin_s, uUn_s, uVar_s, uC_s, getS, setS, uNeg, uIsF, isNonU, uTru, Blt.fn, uAbs, uMax2, uMin2, uInt, startU, gam_fn, gam_gl, tab_xcs, tab_sub, UD_nx, UD_rt, UD_bk, UD_ct, UD_ex, spAt, glAt, gls, List.map_cons, List.map_nil, List.cons_append, List.nil_append, List.length_cons, List.length_nil, List.replicate, Nat.reduceAdd, Nat.reduceSub, Nat.zero_add, reduceIte, Bool.false_eq_true, Bool.true_eq_false, Bool.false_bne, Bool.true_bne, Bool.not_true, Bool.not_false, Bool.not_not, List.reverse_cons, List.reverse_nil, Option.map_some, Option.map_none, up_same, uSet, atI_zero, atI_one, ixN_20, ixN_zero, List.set_cons_zero, h2, decide_false]
      exact later _ _ _ _ s10
end K81
set_option Elab.async false
set_option linter.all false
set_option autoImplicit false
set_option maxRecDepth 100000
set_option maxHeartbeats 4000000
set_option pp.maxSteps 1500
set_option pp.deepTerms false
namespace K81
open PySem PySem.Spec L2 UL
/-! ### law -/
def spLaw : USp := fun us G Q _ => ∃ ns : List Int, us = [.rol (ns.map U.int)] ∧ ns.length ≤ 63 ∧ ∀ G', Q (.bl true) G'
def cl_law : List (Str × USp) := [("_law_deck", sp__law_deck), ("_law_sound", sp__law_sound), ("_law_sound_text", sp__law_sound_text), ("_law_same", sp__law_same), ("read_sound", sp_read_sound), ("show_sound", sp_show_sound), ("_law_right", sp__law_right), ("_law_bent_sound", sp__law_bent_sound), ("_law_unlike", sp__law_unlike), ("_law_pick", sp__law_pick), ("_law_refuses", sp__law_refuses)]
theorem l_law {p g : Addr} {l : List Nat} (hl : l.length ≤ 5000) (hok : l.all okc = true) (D : UE) {t0 t2 t3 t6 : Option U} (q : ∀ o5 G', Dk G' p g → D.nx [t0, some (.ref p), t2, t3, some (.str (SX.S l)), o5, t6] G') :
    ∀ (ys : List U) (o5 : Option U) (G : UH), Dk G p g → forU [] (trG (.nm 5)) (trSs (TB cl_law) (GM cl_law) l1_law) D ys [t0, some (.ref p), t2, t3, some (.str (SX.S l)), o5, t6] G
  | [], o5, G, hD => ⟨trivial, q _ G hD⟩
  | y :: ys, o5, G, hD => by
    have next := fun o5 G => l_law (p := p) (g := g) hl hok D (t0 := t0) (t2 := t2) (t3 := t3) (t6 := t6) q ys o5 G
    refine ⟨trivial, ?_⟩
    show _
    generalize forU _ _ _ D ys = T at next ⊢
    simp only [inH_xc, inH_fn, inH_gl, trJ, uFmt, uXf, uXi, gam_hf, gam_xc, tab_kin, trSs, trS, trE, trT, trX, pl, trA, trO, trC, trI, uBin_s, uUn_s, uVar_s, uC_s, getS, setS, uNeg, uIsF, isNonU, uTru, Blt.fn, uAbs, uMax2, uMin2, uInt, startU, gam_fn, gam_gl, tab_xcs, tab_sub, UD_nx, UD_rt, UD_bk, UD_ct, UD_ex, spAt, glAt, gls, List.map_cons, List.map_nil, List.cons_append, List.nil_append, List.length_cons, List.length_nil, List.replicate, Nat.reduceAdd, Nat.reduceSub, Nat.zero_add, reduceIte, Bool.false_eq_true, Bool.true_eq_false, Bool.false_bne, Bool.true_bne, Bool.not_true, Bool.not_false, Bool.not_not, List.reverse_cons, List.reverse_nil, Option.map_some, Option.map_none, up_same, uSet, atI_zero, atI_one, ixN_20, ixN_zero, List.set_cons_zero, trG, l1_law, cl_law]
    refine ⟨p, g, l, rfl, hD, hl, hok, fun u G1 hu hD1 f1 => ?_⟩
    obtain ⟨x, rfl, x1, x2⟩ := hu
    refine ⟨x, rfl, by omega, x1, fun G2 l2 => ?_⟩
    simp only [inH_xc, inH_fn, inH_gl, trJ, uFmt, uXf, uXi, gam_hf, gam_xc, tab_kin, trSs, trS, trE, trT, trX, pl, trA, trO, trC, trI, uBin_s, uUn_s, uVar_s, uC_s, getS, setS, uNeg, uIsF, isNonU, uTru, Blt.fn, uAbs, uMax2, uMin2, uInt, startU, gam_fn, gam_gl, tab_xcs, tab_sub, UD_nx, UD_rt, UD_bk, UD_ct, UD_ex, spAt, glAt, gls, List.map_cons, List.map_nil, List.cons_append, List.nil_append, List.length_cons, List.length_nil, List.replicate, Nat.reduceAdd, Nat.reduceSub, Nat.zero_add, reduceIte, Bool.false_eq_true, Bool.true_eq_false, Bool.false_bne, Bool.true_bne, Bool.not_true, Bool.not_false, Bool.not_not, List.reverse_cons, List.reverse_nil, Option.map_some, Option.map_none, up_same, uSet, atI_zero, atI_one, ixN_20, ixN_zero, List.set_cons_zero]
    exact ⟨G2, .refl _, next _ _ (hD1.le l2)⟩
theorem ty_of {G : UH} {u : U} (h : match u with
  | .ref _ => False
  | .ty _ => False
  | _ => True) : tyS G u := by
  cases u <;> first | rfl | exact h.elim
theorem w_law (us : List U) (G : UH) (Q : UK) (E : UXn → UH → Prop) (h : spLaw us G Q E) : trSs (TB cl_law) (GM cl_law) b_law (UD Q E) (startU n_law us) G := by
  obtain ⟨ns, rfl, hn, q⟩ := h
  have lg := line_ge
  simp only [inH_xc, inH_fn, inH_gl, trJ, uFmt, uXf, uXi, gam_hf, gam_xc, tab_kin, trSs, trS, trE, trT, trX, pl, trA, trO, trC, trI, uBin_s, uUn_s, uVar_s, uC_s, getS, setS, uNeg, uIsF, isNonU, uTru, Blt.fn, uAbs, uMax2, uMin2, uInt, startU, gam_fn, gam_gl, tab_xcs, tab_sub, UD_nx, UD_rt, UD_bk, UD_ct, UD_ex, spAt, glAt, gls, List.map_cons, List.map_nil, List.cons_append, List.nil_append, List.length_cons, List.length_nil, List.replicate, Nat.reduceAdd, Nat.reduceSub, Nat.zero_add, reduceIte, Bool.false_eq_true, Bool.true_eq_false, Bool.false_bne, Bool.true_bne, Bool.not_true, Bool.not_false, Bool.not_not, List.reverse_cons, List.reverse_nil, Option.map_some, Option.map_none, up_same, uSet, atI_zero, atI_one, ixN_20, ixN_zero, List.set_cons_zero, b_law, n_law, trG, cl_law]
  refine ⟨ns, rfl, hn, fun p g G1 hD1 l1 => ?_⟩
  simp only [inH_xc, inH_fn, inH_gl, trJ, uFmt, uXf, uXi, gam_hf, gam_xc, tab_kin, trSs, trS, trE, trT, trX, pl, trA, trO, trC, trI, uBin_s, uUn_s, uVar_s, uC_s, getS, setS, uNeg, uIsF, isNonU, uTru, Blt.fn, uAbs, uMax2, uMin2, uInt, startU, gam_fn, gam_gl, tab_xcs, tab_sub, UD_nx, UD_rt, UD_bk, UD_ct, UD_ex, spAt, glAt, gls, List.map_cons, List.map_nil, List.cons_append, List.nil_append, List.length_cons, List.length_nil, List.replicate, Nat.reduceAdd, Nat.reduceSub, Nat.zero_add, reduceIte, Bool.false_eq_true, Bool.true_eq_false, Bool.false_bne, Bool.true_bne, Bool.not_true, Bool.not_false, Bool.not_not, List.reverse_cons, List.reverse_nil, Option.map_some, Option.map_none, up_same, uSet, atI_zero, atI_one, ixN_20, ixN_zero, List.set_cons_zero, t9_law, trG, cl_law]
  refine ⟨p, g, rfl, hD1, fun ws G2 hw hl hD2 f2 => ?_⟩
  simp only [inH_xc, inH_fn, inH_gl, trJ, uFmt, uXf, uXi, gam_hf, gam_xc, tab_kin, trSs, trS, trE, trT, trX, pl, trA, trO, trC, trI, uBin_s, uUn_s, uVar_s, uC_s, getS, setS, uNeg, uIsF, isNonU, uTru, Blt.fn, uAbs, uMax2, uMin2, uInt, startU, gam_fn, gam_gl, tab_xcs, tab_sub, UD_nx, UD_rt, UD_bk, UD_ct, UD_ex, spAt, glAt, gls, List.map_cons, List.map_nil, List.cons_append, List.nil_append, List.length_cons, List.length_nil, List.replicate, Nat.reduceAdd, Nat.reduceSub, Nat.zero_add, reduceIte, Bool.false_eq_true, Bool.true_eq_false, Bool.false_bne, Bool.true_bne, Bool.not_true, Bool.not_false, Bool.not_not, List.reverse_cons, List.reverse_nil, Option.map_some, Option.map_none, up_same, uSet, atI_zero, atI_one, ixN_20, ixN_zero, List.set_cons_zero, t8_law, trG, cl_law]
  refine ⟨ws, rfl, hw, by omega, fun G3 l3 => ?_⟩
  have hD3 := hD2.le l3
  simp only [inH_xc, inH_fn, inH_gl, trJ, uFmt, uXf, uXi, gam_hf, gam_xc, tab_kin, trSs, trS, trE, trT, trX, pl, trA, trO, trC, trI, uBin_s, uUn_s, uVar_s, uC_s, getS, setS, uNeg, uIsF, isNonU, uTru, Blt.fn, uAbs, uMax2, uMin2, uInt, startU, gam_fn, gam_gl, tab_xcs, tab_sub, UD_nx, UD_rt, UD_bk, UD_ct, UD_ex, spAt, glAt, gls, List.map_cons, List.map_nil, List.cons_append, List.nil_append, List.length_cons, List.length_nil, List.replicate, Nat.reduceAdd, Nat.reduceSub, Nat.zero_add, reduceIte, Bool.false_eq_true, Bool.true_eq_false, Bool.false_bne, Bool.true_bne, Bool.not_true, Bool.not_false, Bool.not_not, List.reverse_cons, List.reverse_nil, Option.map_some, Option.map_none, up_same, uSet, atI_zero, atI_one, ixN_20, ixN_zero, List.set_cons_zero, t7_law, cl_law]
  refine show_of hw (by omega) fun G4 l4 => ?_
  refine ⟨_, rfl, .inl rfl, ?_⟩
  simp only [inH_xc, inH_fn, inH_gl, trJ, uFmt, uXf, uXi, gam_hf, gam_xc, tab_kin, trSs, trS, trE, trT, trX, pl, trA, trO, trC, trI, uBin_s, uUn_s, uVar_s, uC_s, getS, setS, uNeg, uIsF, isNonU, uTru, Blt.fn, uAbs, uMax2, uMin2, uInt, startU, gam_fn, gam_gl, tab_xcs, tab_sub, UD_nx, UD_rt, UD_bk, UD_ct, UD_ex, spAt, glAt, gls, List.map_cons, List.map_nil, List.cons_append, List.nil_append, List.length_cons, List.length_nil, List.replicate, Nat.reduceAdd, Nat.reduceSub, Nat.zero_add, reduceIte, Bool.false_eq_true, Bool.true_eq_false, Bool.false_bne, Bool.true_bne, Bool.not_true, Bool.not_false, Bool.not_not, List.reverse_cons, List.reverse_nil, Option.map_some, Option.map_none, up_same, uSet, atI_zero, atI_one, ixN_20, ixN_zero, List.set_cons_zero]
  have hsl := showL_len hw (by omega)
  refine ⟨_, rfl, rfl, (fun z => by cases z), fun z hz => ⟨showL ws, (by cases hz; rfl), by omega, okc_show ws, fun G5 l5 => ?_⟩⟩
  rw [read_show hw (by omega)]
  refine ⟨_, rfl, .inr ⟨_, rfl, leaves ws, by rw [List.length_map]; omega⟩, ?_⟩
  have hD5 := (hD3.le l4).le l5
  have hw60 : Wd1 (ws.take 60) := fun x hx => hw x (List.mem_of_mem_take hx)
  simp only [inH_xc, inH_fn, inH_gl, trJ, uFmt, uXf, uXi, gam_hf, gam_xc, tab_kin, trSs, trS, trE, trT, trX, pl, trA, trO, trC, trI, uBin_s, uUn_s, uVar_s, uC_s, getS, setS, uNeg, uIsF, isNonU, uTru, Blt.fn, uAbs, uMax2, uMin2, uInt, startU, gam_fn, gam_gl, tab_xcs, tab_sub, UD_nx, UD_rt, UD_bk, UD_ct, UD_ex, spAt, glAt, gls, List.map_cons, List.map_nil, List.cons_append, List.nil_append, List.length_cons, List.length_nil, List.replicate, Nat.reduceAdd, Nat.reduceSub, Nat.zero_add, reduceIte, Bool.false_eq_true, Bool.true_eq_false, Bool.false_bne, Bool.true_bne, Bool.not_true, Bool.not_false, Bool.not_not, List.reverse_cons, List.reverse_nil, Option.map_some, Option.map_none, up_same, uSet, atI_zero, atI_one, ixN_20, ixN_zero, List.set_cons_zero, t6_law, trG, cl_law, uSl]
  rw [show cutU (ws.map U.int) none (some 60) = (ws.take 60).map U.int from by rw [show (60 : Int) = ((60 : Nat) : Int) from rfl, cutTo, List.map_take]]
  refine ⟨ws.take 60, rfl, hw60, by rw [List.length_take]; omega, fun G6 l6 => ?_⟩
  have hD6 := hD5.le l6
  have hs60 := showL_len hw60 (by rw [List.length_take]; omega)
  have ok60 := okc_show (ws.take 60)
  have l60 : (showL (ws.take 60)).length ≤ 5000 := by rw [List.length_take] at hs60; omega
  simp only [inH_xc, inH_fn, inH_gl, trJ, uFmt, uXf, uXi, gam_hf, gam_xc, tab_kin, trSs, trS, trE, trT, trX, pl, trA, trO, trC, trI, uBin_s, uUn_s, uVar_s, uC_s, getS, setS, uNeg, uIsF, isNonU, uTru, Blt.fn, uAbs, uMax2, uMin2, uInt, startU, gam_fn, gam_gl, tab_xcs, tab_sub, UD_nx, UD_rt, UD_bk, UD_ct, UD_ex, spAt, glAt, gls, List.map_cons, List.map_nil, List.cons_append, List.nil_append, List.length_cons, List.length_nil, List.replicate, Nat.reduceAdd, Nat.reduceSub, Nat.zero_add, reduceIte, Bool.false_eq_true, Bool.true_eq_false, Bool.false_bne, Bool.true_bne, Bool.not_true, Bool.not_false, Bool.not_not, List.reverse_cons, List.reverse_nil, Option.map_some, Option.map_none, up_same, uSet, atI_zero, atI_one, ixN_20, ixN_zero, List.set_cons_zero, t5_law, cl_law]
  refine ⟨by unfold small62; omega, ?_⟩
  refine l_law l60 ok60 _ (fun o5 G7 hD7 => ?_) _ _ G6 hD6
  simp only [inH_xc, inH_fn, inH_gl, trJ, uFmt, uXf, uXi, gam_hf, gam_xc, tab_kin, trSs, trS, trE, trT, trX, pl, trA, trO, trC, trI, uBin_s, uUn_s, uVar_s, uC_s, getS, setS, uNeg, uIsF, isNonU, uTru, Blt.fn, uAbs, uMax2, uMin2, uInt, startU, gam_fn, gam_gl, tab_xcs, tab_sub, UD_nx, UD_rt, UD_bk, UD_ct, UD_ex, spAt, glAt, gls, List.map_cons, List.map_nil, List.cons_append, List.nil_append, List.length_cons, List.length_nil, List.replicate, Nat.reduceAdd, Nat.reduceSub, Nat.zero_add, reduceIte, Bool.false_eq_true, Bool.true_eq_false, Bool.false_bne, Bool.true_bne, Bool.not_true, Bool.not_false, Bool.not_not, List.reverse_cons, List.reverse_nil, Option.map_some, Option.map_none, up_same, uSet, atI_zero, atI_one, ixN_20, ixN_zero, List.set_cons_zero, t4_law, cl_law]
  refine ⟨p, g, ws, rfl, hD7, hw, hl, fun G8 hD8 f8 => ?_⟩
  simp only [inH_xc, inH_fn, inH_gl, trJ, uFmt, uXf, uXi, gam_hf, gam_xc, tab_kin, trSs, trS, trE, trT, trX, pl, trA, trO, trC, trI, uBin_s, uUn_s, uVar_s, uC_s, getS, setS, uNeg, uIsF, isNonU, uTru, Blt.fn, uAbs, uMax2, uMin2, uInt, startU, gam_fn, gam_gl, tab_xcs, tab_sub, UD_nx, UD_rt, UD_bk, UD_ct, UD_ex, spAt, glAt, gls, List.map_cons, List.map_nil, List.cons_append, List.nil_append, List.length_cons, List.length_nil, List.replicate, Nat.reduceAdd, Nat.reduceSub, Nat.zero_add, reduceIte, Bool.false_eq_true, Bool.true_eq_false, Bool.false_bne, Bool.true_bne, Bool.not_true, Bool.not_false, Bool.not_not, List.reverse_cons, List.reverse_nil, Option.map_some, Option.map_none, up_same, uSet, atI_zero, atI_one, ixN_20, ixN_zero, List.set_cons_zero]
  refine ⟨_, rfl, by omega, ok60, fun G9 l9 => ?_⟩
  have hD9 := hD8.le l9
  simp only [inH_xc, inH_fn, inH_gl, trJ, uFmt, uXf, uXi, gam_hf, gam_xc, tab_kin, trSs, trS, trE, trT, trX, pl, trA, trO, trC, trI, uBin_s, uUn_s, uVar_s, uC_s, getS, setS, uNeg, uIsF, isNonU, uTru, Blt.fn, uAbs, uMax2, uMin2, uInt, startU, gam_fn, gam_gl, tab_xcs, tab_sub, UD_nx, UD_rt, UD_bk, UD_ct, UD_ex, spAt, glAt, gls, List.map_cons, List.map_nil, List.cons_append, List.nil_append, List.length_cons, List.length_nil, List.replicate, Nat.reduceAdd, Nat.reduceSub, Nat.zero_add, reduceIte, Bool.false_eq_true, Bool.true_eq_false, Bool.false_bne, Bool.true_bne, Bool.not_true, Bool.not_false, Bool.not_not, List.reverse_cons, List.reverse_nil, Option.map_some, Option.map_none, up_same, uSet, atI_zero, atI_one, ixN_20, ixN_zero, List.set_cons_zero, t3_law, trG, cl_law]
  have s9 : St p g G9 [] G9 := ⟨hD9, .refl _ _ _, fun k hk => by cases hk⟩
  refine ⟨by omega, fun a0 ha0 => ⟨by omega, by omega, by omega, by omega, by omega, by omega, by omega, by omega, fun a1 ha1 => ?_⟩⟩
  have s10 := s9.push (us := [U.int 1]) ha0
  generalize UL.up G9 a0 _ = GA at s10 ha1 ⊢
  have s11 := s10.push (us := [U.non, U.ref a0, U.tup [U.bl true], U.tup [U.int 1048576], U.tup [U.int 0, U.int (-1048576)], U.tup [U.tup [U.int 1]], U.int 5, U.str (Str.ofString "sound 0"), U.tup [U.int 1, U.non], U.tup [U.bl false, U.int 0]]) ha1
  generalize UL.up GA a1 _ = GB at s11 ⊢
  refine pick_st s11 List.mem_cons_self (by simp) (by simp) fun u GC hu s12 => ?_
  have hbad : okS GC u ∧ isS u = false := by
    have e0 := (s12.at_ (a0, [U.int 1]) (by simp)).1
    simp only [List.mem_cons, List.mem_nil_iff, or_false] at hu
    rcases hu with rfl | rfl | rfl | rfl | rfl | rfl | rfl | rfl | rfl | rfl
    · exact ⟨⟨rfl, fun us e => by cases e⟩, rfl⟩
    · exact ⟨⟨by unfold tyS tyN; simp only [e0]; rfl, fun us e => by cases e⟩, rfl⟩
    · exact ⟨⟨rfl, fun us e x hx => by cases e; simp only [List.mem_cons, List.mem_nil_iff, or_false] at hx; subst hx; rfl⟩, rfl⟩
    · exact ⟨⟨rfl, fun us e x hx => by cases e; simp only [List.mem_cons, List.mem_nil_iff, or_false] at hx; subst hx; rfl⟩, rfl⟩
    · exact ⟨⟨rfl, fun us e x hx => by cases e; simp only [List.mem_cons, List.mem_nil_iff, or_false] at hx; rcases hx with rfl | rfl <;> rfl⟩, rfl⟩
    · exact ⟨⟨rfl, fun us e x hx => by cases e; simp only [List.mem_cons, List.mem_nil_iff, or_false] at hx; subst hx; rfl⟩, rfl⟩
    · exact ⟨⟨rfl, fun us e => by cases e⟩, rfl⟩
    · exact ⟨⟨rfl, fun us e => by cases e⟩, rfl⟩
    · exact ⟨⟨rfl, fun us e x hx => by cases e; simp only [List.mem_cons, List.mem_nil_iff, or_false] at hx; rcases hx with rfl | rfl <;> rfl⟩, rfl⟩
    · exact ⟨⟨rfl, fun us e x hx => by cases e; simp only [List.mem_cons, List.mem_nil_iff, or_false] at hx; rcases hx with rfl | rfl <;> rfl⟩, rfl⟩
  simp only [inH_xc, inH_fn, inH_gl, trJ, uFmt, uXf, uXi, gam_hf, gam_xc, tab_kin, trSs, trS, trE, trT, trX, pl, trA, trO, trC, trI, uBin_s, uUn_s, uVar_s, uC_s, getS, setS, uNeg, uIsF, isNonU, uTru, Blt.fn, uAbs, uMax2, uMin2, uInt, startU, gam_fn, gam_gl, tab_xcs, tab_sub, UD_nx, UD_rt, UD_bk, UD_ct, UD_ex, spAt, glAt, gls, List.map_cons, List.map_nil, List.cons_append, List.nil_append, List.length_cons, List.length_nil, List.replicate, Nat.reduceAdd, Nat.reduceSub, Nat.zero_add, reduceIte, Bool.false_eq_true, Bool.true_eq_false, Bool.false_bne, Bool.true_bne, Bool.not_true, Bool.not_false, Bool.not_not, List.reverse_cons, List.reverse_nil, Option.map_some, Option.map_none, up_same, uSet, atI_zero, atI_one, ixN_20, ixN_zero, List.set_cons_zero, t2_law, cl_law]
  refine ⟨u, true, rfl, hbad.1, hbad.2, fun GD lD => ?_⟩
  have s13 := s12.le lD
  simp only [inH_xc, inH_fn, inH_gl, trJ, uFmt, uXf, uXi, gam_hf, gam_xc, tab_kin, trSs, trS, trE, trT, trX, pl, trA, trO, trC, trI, uBin_s, uUn_s, uVar_s, uC_s, getS, setS, uNeg, uIsF, isNonU, uTru, Blt.fn, uAbs, uMax2, uMin2, uInt, startU, gam_fn, gam_gl, tab_xcs, tab_sub, UD_nx, UD_rt, UD_bk, UD_ct, UD_ex, spAt, glAt, gls, List.map_cons, List.map_nil, List.cons_append, List.nil_append, List.length_cons, List.length_nil, List.replicate, Nat.reduceAdd, Nat.reduceSub, Nat.zero_add, reduceIte, Bool.false_eq_true, Bool.true_eq_false, Bool.false_bne, Bool.true_bne, Bool.not_true, Bool.not_false, Bool.not_not, List.reverse_cons, List.reverse_nil, Option.map_some, Option.map_none, up_same, uSet, atI_zero, atI_one, ixN_20, ixN_zero, List.set_cons_zero]
  refine ⟨by omega, by omega, fun b0 hb0 => ⟨by omega, by omega, fun b1 hb1 => ?_⟩⟩
  have s14 := s13.push (us := [U.str (Str.ofString "sound 0")]) hb0
  generalize UL.up GD b0 _ = GE at s14 hb1 ⊢
  have s15 := s14.push (us := [U.non, U.int 0, U.bl true, U.tup [U.str (Str.ofString "sound"), U.str (Str.ofString "0")], U.ref b0, U.tup []]) hb1
  generalize UL.up GE b1 _ = GF at s15 ⊢
  refine pick_st s15 List.mem_cons_self (by simp) (by simp) fun v GG hv s16 => ?_
  have hbad2 : okS GG v ∧ kS v = false := by
    have e0 := (s16.at_ (b0, [U.str (Str.ofString "sound 0")]) (by simp)).1
    simp only [List.mem_cons, List.mem_nil_iff, or_false] at hv
    rcases hv with rfl | rfl | rfl | rfl | rfl | rfl
    · exact ⟨⟨rfl, fun us e => by cases e⟩, rfl⟩
    · exact ⟨⟨rfl, fun us e => by cases e⟩, rfl⟩
    · exact ⟨⟨rfl, fun us e => by cases e⟩, rfl⟩
    · exact ⟨⟨rfl, fun us e x hx => by cases e; simp only [List.mem_cons, List.mem_nil_iff, or_false] at hx; rcases hx with rfl | rfl <;> rfl⟩, rfl⟩
    · exact ⟨⟨by unfold tyS tyN; simp only [e0]; rfl, fun us e => by cases e⟩, rfl⟩
    · exact ⟨⟨rfl, fun us e x hx => by cases e; cases hx⟩, rfl⟩
  refine ⟨v, false, rfl, hbad2.1, hbad2.2, fun GH lH => ?_⟩
  simp only [inH_xc, inH_fn, inH_gl, trJ, uFmt, uXf, uXi, gam_hf, gam_xc, tab_kin, trSs, trS, trE, trT, trX, pl, trA, trO, trC, trI, uBin_s, uUn_s, uVar_s, uC_s, getS, setS, uNeg, uIsF, isNonU, uTru, Blt.fn, uAbs, uMax2, uMin2, uInt, startU, gam_fn, gam_gl, tab_xcs, tab_sub, UD_nx, UD_rt, UD_bk, UD_ct, UD_ex, spAt, glAt, gls, List.map_cons, List.map_nil, List.cons_append, List.nil_append, List.length_cons, List.length_nil, List.replicate, Nat.reduceAdd, Nat.reduceSub, Nat.zero_add, reduceIte, Bool.false_eq_true, Bool.true_eq_false, Bool.false_bne, Bool.true_bne, Bool.not_true, Bool.not_false, Bool.not_not, List.reverse_cons, List.reverse_nil, Option.map_some, Option.map_none, up_same, uSet, atI_zero, atI_one, ixN_20, ixN_zero, List.set_cons_zero, t1_law, cl_law]
  refine show_of hw (by omega) fun GI lI => ?_
  exact ⟨_, rfl, .inl rfl, fin.of (q GI)⟩
end K81
set_option Elab.async false
set_option linter.all false
set_option autoImplicit false
set_option maxRecDepth 100000
set_option maxHeartbeats 0
/-! the head (written by mkhead.py) -/
namespace K81
open PySem PySem.Spec PyProof.Rows L2 UL
def d_is_integer : He.DefD := ⟨("is_integer", none), "is_integer", "is_integer", defArgs s_is_integer, defBody s_is_integer, defScope s_is_integer, [], []⟩
def d_is_worth : He.DefD := ⟨("is_worth", none), "is_worth", "is_worth", defArgs s_is_worth, defBody s_is_worth, defScope s_is_worth, [], []⟩
def d_is_sound : He.DefD := ⟨("is_sound", none), "is_sound", "is_sound", defArgs s_is_sound, defBody s_is_sound, defScope s_is_sound, [], []⟩
def d_show_sound : He.DefD := ⟨("show_sound", none), "show_sound", "show_sound", defArgs s_show_sound, defBody s_show_sound, defScope s_show_sound, [], []⟩
def d__sound_figures : He.DefD := ⟨("_sound_figures", none), "_sound_figures", "_sound_figures", defArgs s__sound_figures, defBody s__sound_figures, defScope s__sound_figures, [], []⟩
def d__sound_worth : He.DefD := ⟨("_sound_worth", none), "_sound_worth", "_sound_worth", defArgs s__sound_worth, defBody s__sound_worth, defScope s__sound_worth, [], []⟩
def d__sound_stretch : He.DefD := ⟨("_sound_stretch", none), "_sound_stretch", "_sound_stretch", defArgs s__sound_stretch, defBody s__sound_stretch, defScope s__sound_stretch, [], []⟩
def d__sound_text_stated : He.DefD := ⟨("_sound_text_stated", none), "_sound_text_stated", "_sound_text_stated", defArgs s__sound_text_stated, defBody s__sound_text_stated, defScope s__sound_text_stated, [], []⟩
def d_read_sound : He.DefD := ⟨("read_sound", none), "read_sound", "read_sound", defArgs s_read_sound, defBody s_read_sound, defScope s_read_sound, [], []⟩
def d__law_deck : He.DefD := ⟨("_law_deck", none), "_law_deck", "_law_deck", defArgs s__law_deck, defBody s__law_deck, defScope s__law_deck, [], []⟩
def d__law_take : He.DefD := ⟨("_law_take", none), "_law_take", "_law_take", defArgs s__law_take, defBody s__law_take, defScope s__law_take, [], []⟩
def d__law_pick : He.DefD := ⟨("_law_pick", none), "_law_pick", "_law_pick", defArgs s__law_pick, defBody s__law_pick, defScope s__law_pick, [], []⟩
def d__law_same : He.DefD := ⟨("_law_same", none), "_law_same", "_law_same", defArgs s__law_same, defBody s__law_same, defScope s__law_same, [], []⟩
def d__law_number : He.DefD := ⟨("_law_number", none), "_law_number", "_law_number", defArgs s__law_number, defBody s__law_number, defScope s__law_number, [], []⟩
def d__law_sound_text : He.DefD := ⟨("_law_sound_text", none), "_law_sound_text", "_law_sound_text", defArgs s__law_sound_text, defBody s__law_sound_text, defScope s__law_sound_text, [], []⟩
def d__law_read_sound : He.DefD := ⟨("_law_read_sound", none), "_law_read_sound", "_law_read_sound", defArgs s__law_read_sound, defBody s__law_read_sound, defScope s__law_read_sound, [], []⟩
def d__law_bent_sound : He.DefD := ⟨("_law_bent_sound", none), "_law_bent_sound", "_law_bent_sound", defArgs s__law_bent_sound, defBody s__law_bent_sound, defScope s__law_bent_sound, [], []⟩
def d__law_heard : He.DefD := ⟨("_law_heard", none), "_law_heard", "_law_heard", defArgs s__law_heard, defBody s__law_heard, defScope s__law_heard, [], []⟩
def d__law_right : He.DefD := ⟨("_law_right", none), "_law_right", "_law_right", defArgs s__law_right, defBody s__law_right, defScope s__law_right, [], []⟩
def d__law_refuses : He.DefD := ⟨("_law_refuses", none), "_law_refuses", "_law_refuses", defArgs s__law_refuses, defBody s__law_refuses, defScope s__law_refuses, [], []⟩
def d__law_sound : He.DefD := ⟨("_law_sound", none), "_law_sound", "_law_sound", defArgs s__law_sound, defBody s__law_sound, defScope s__law_sound, [], []⟩
def d__law_unlike : He.DefD := ⟨("_law_unlike", none), "_law_unlike", "_law_unlike", defArgs s__law_unlike, defBody s__law_unlike, defScope s__law_unlike, [], []⟩
def d_law : He.DefD := ⟨("law", none), "law", "law", defArgs s_law, defBody s_law, defScope s_law, [], []⟩
abbrev s_NotUsable_init : Stmt := inClass (top 3) 0
def d_NotUsable_init : He.DefD := ⟨("NotUsable", some "__init__"), "__init__", "NotUsable.__init__", defArgs s_NotUsable_init, defBody s_NotUsable_init, defScope s_NotUsable_init, [], []⟩
abbrev s_BadText_init : Stmt := inClass (top 4) 0
def d_BadText_init : He.DefD := ⟨("BadText", some "__init__"), "__init__", "BadText.__init__", defArgs s_BadText_init, defBody s_BadText_init, defScope s_BadText_init, [], []⟩
def fn : List He.DefD := [d_is_integer, d_is_worth, d_is_sound, d_show_sound, d__sound_figures, d__sound_worth, d__sound_stretch, d__sound_text_stated, d_read_sound, d__law_deck, d__law_take, d__law_pick, d__law_same, d__law_number, d__law_sound_text, d__law_read_sound, d__law_bent_sound, d__law_heard, d__law_right, d__law_refuses, d__law_sound, d__law_unlike, d_law, d_NotUsable_init, d_BadText_init]
def fa0 : List He.Fa := [.glo "is_integer", .glo "is_worth", .glo "is_sound", .glo "show_sound", .glo "_sound_figures", .glo "_sound_worth", .glo "_sound_stretch", .glo "_sound_text_stated", .glo "read_sound", .glo "_law_deck", .glo "_law_take", .glo "_law_pick", .glo "_law_same", .glo "_law_number", .glo "_law_sound_text", .glo "_law_read_sound", .glo "_law_bent_sound", .glo "_law_heard", .glo "_law_right", .glo "_law_refuses", .glo "_law_sound", .glo "_law_unlike", .glo "law", .glo "NotUsable", .glo "BadText", .exm "NotUsable" "NotUsable" true, .exm "NotUsable" "BadText" false, .exm "BadText" "NotUsable" false, .exm "BadText" "BadText" true, .int "TOP" 1048575, .glo "SoundError", .glo "UseError", .free "ValueError"]
def fa : List He.Fa := fa0 ++ bltNames.map fun (x : Str) => .free x
def ex (K : PySem.W.Frag) : Bool := xcs.all (xcB K) && kins.all (xiB K)
def loose : List Str := (["SoundError", "UseError", "NotUsable", "BadText", "TOP", "is_integer", "is_worth", "is_sound", "show_sound", "_sound_figures", "_sound_worth", "_sound_stretch", "_sound_text_stated", "read_sound", "_law_deck", "_law_take", "_law_pick", "_law_same", "_law_number", "_law_sound_text", "_law_read_sound", "_law_bent_sound", "_law_heard", "_law_right", "_law_refuses", "_law_sound", "_law_unlike"] : List Str)
abbrev R : PySem.W.OpenRow := PySem.W.OpenLaw.row PySem.Challenge.rw_samesamples_k81_sounds_texts
abbrev hk : PySem.W.Hook := hookU 5 fa fn ex
def ob (s : PySem.W.SharedT) : AlU := obsU 5 fa fn ex (HandSHeadRun.getT s)
theorem ob_eq (s : PySem.W.SharedT) : ob s = hk.obs s.abs := obsU_eq (HandSHeadRun.getT_eq s)
theorem run (w : World) : HandSHeadRun.RunEq R (PySem.W.view R.prog [31]) hk ob 4000 loose w := by
  intro os
  kernel_rfl
end K81
set_option Elab.async false
set_option linter.all false
set_option autoImplicit false
set_option maxRecDepth 100000
set_option maxHeartbeats 4000000
/-! the defs keep their promises; the end (written by mkav.py) -/
namespace K81
open PySem PySem.Spec PyProof.Rows L2 UL
section
variable {P : Program} {w : World} {K : PySem.W.Frag} {mg : Str → Option Value} {base : Heap} {h : Heap} (X : K.In h) (G : h.Ns mainGlobals mg) (c : He.SaysD fa fn K) (cx : ex K = true)
include X G c cx
theorem avx_NotUsable : AvX P w K mg base 1 "NotUsable" ["at", "word"] := by
  obtain ⟨fd, F⟩ := c.def_ 23 (d := d_NotUsable_init) rfl
  have Y := xc_of (List.all_eq_true.mp (Bool.and_eq_true_iff.mp cx).1 ("NotUsable", ["at", "word"]) (by decide +kernel))
  have S : FnScope ["self", "word", "at"] ["self", "word", "at"] (defScope s_NotUsable_init) := ⟨rfl, rfl, rfl, by decide +kernel, rfl, by decide +kernel, by decide +kernel⟩
  have b : Binds K fd ["self", "word", "at"] [] := FunD.bindsN F fun _ _ _ _ _ _ us hl => match us, hl with | [_, _, _], _ => rfl
  exact avx2 (k := 0) (st := s_NotUsable_init) (He.glo_ok X G (c.fact 23 (f := .glo "NotUsable") rfl)) (by decide +kernel) Y.c Y.o Y.i Y.t (funD_fun F) b S rfl (by decide +kernel) (by decide +kernel) (by decide +kernel) (by decide +kernel) (by decide +kernel) (by decide +kernel) (by decide +kernel)
theorem avx_BadText : AvX P w K mg base 1 "BadText" ["row"] := by
  obtain ⟨fd, F⟩ := c.def_ 24 (d := d_BadText_init) rfl
  have Y := xc_of (List.all_eq_true.mp (Bool.and_eq_true_iff.mp cx).1 ("BadText", ["row"]) (by decide +kernel))
  have S : FnScope ["self", "row"] ["self", "row"] (defScope s_BadText_init) := ⟨rfl, rfl, rfl, by decide +kernel, rfl, by decide +kernel, by decide +kernel⟩
  have b : Binds K fd ["self", "row"] [] := FunD.bindsN F fun _ _ _ _ _ _ us hl => match us, hl with | [_, _], _ => rfl
  exact avx1 (k := 0) (st := s_BadText_init) (He.glo_ok X G (c.fact 24 (f := .glo "BadText") rfl)) (by decide +kernel) Y.c Y.o Y.i Y.t (funD_fun F) b S rfl (by decide +kernel) (by decide +kernel) (by decide +kernel) (by decide +kernel)
theorem wd : Wd P w K mg base xcs sub kin gls 1 where
  gls := fun p hp => by
    unfold gls at hp
    simp only [List.mem_cons, List.mem_nil_iff, or_false] at hp
    rcases hp with rfl
    · obtain ⟨t, e⟩ := He.int_ok X G (c.fact 29 (f := .int "TOP" 1048575) rfl)
      exact ⟨_, V.int _, e, ⟨_, rfl⟩, fun H => .int _, by decide +kernel⟩
  blt := fun x hx => by
    obtain ⟨i, hi⟩ := List.getElem?_of_mem hx
    refine He.free_ok X G (c.fact (33 + i) (f := .free x) ?_)
    have l0 : fa0.length = 33 := rfl
    unfold fa
    rw [List.getElem?_append_right (by omega), l0, Nat.add_sub_cancel_left, List.getElem?_map, hi]
    rfl
  xc := fun p hp => by
    unfold xcs at hp
    simp only [List.mem_cons, List.mem_nil_iff, or_false] at hp
    rcases hp with rfl | rfl
    · exact avx_NotUsable X G c cx
    · exact avx_BadText X G c cx
  kin := xi_of (Bool.and_eq_true_iff.mp cx).2 fun q hq => by
    unfold kins at hq
    simp only [List.mem_cons, List.mem_nil_iff, or_false] at hq
    rcases hq with rfl | rfl | rfl
    · exact ⟨He.glo_ok X G (c.fact 24 (f := .glo "BadText") rfl), by decide +kernel, .inr ⟨by decide +kernel, He.glo_ok X G (c.fact 30 (f := .glo "SoundError") rfl)⟩⟩
    · exact ⟨He.glo_ok X G (c.fact 24 (f := .glo "BadText") rfl), by decide +kernel, .inr ⟨by decide +kernel, He.glo_ok X G (c.fact 31 (f := .glo "UseError") rfl)⟩⟩
    · exact ⟨He.glo_ok X G (c.fact 24 (f := .glo "BadText") rfl), by decide +kernel, .inl ⟨rfl, He.free_ok X G (c.fact 32 (f := .free "ValueError") rfl)⟩⟩
  sub := fun i j x y fs gs C D h1 h2 h3 h4 => by
    have g_NotUsable := He.glo_ok X G (c.fact 23 (f := .glo "NotUsable") rfl)
    have g_BadText := He.glo_ok X G (c.fact 24 (f := .glo "BadText") rfl)
    have hi : i < 2 := (List.getElem?_eq_some_iff.mp h1).1
    have hj : j < 2 := (List.getElem?_eq_some_iff.mp h2).1
    have hij : (i = 0 ∧ j = 0) ∨ (i = 0 ∧ j = 1) ∨ (i = 1 ∧ j = 0) ∨ (i = 1 ∧ j = 1) := by omega
    rcases hij with ⟨rfl, rfl⟩ | ⟨rfl, rfl⟩ | ⟨rfl, rfl⟩ | ⟨rfl, rfl⟩
    · cases h1; cases h2
      have e3 := g_NotUsable.symm.trans h3; have e4 := g_NotUsable.symm.trans h4
      cases e3; cases e4
      exact He.exm_ok (c.fact 25 (f := .exm "NotUsable" "NotUsable" true) rfl)
    · cases h1; cases h2
      have e3 := g_NotUsable.symm.trans h3; have e4 := g_BadText.symm.trans h4
      cases e3; cases e4
      exact He.exm_ok (c.fact 26 (f := .exm "NotUsable" "BadText" false) rfl)
    · cases h1; cases h2
      have e3 := g_BadText.symm.trans h3; have e4 := g_NotUsable.symm.trans h4
      cases e3; cases e4
      exact He.exm_ok (c.fact 27 (f := .exm "BadText" "NotUsable" false) rfl)
    · cases h1; cases h2
      have e3 := g_BadText.symm.trans h3; have e4 := g_BadText.symm.trans h4
      cases e3; cases e4
      exact He.exm_ok (c.fact 28 (f := .exm "BadText" "BadText" true) rfl)
theorem avh__law_same_bot : AvH P w K mg base xcs 1 "_law_same" (fun _ _ _ _ => False) := by
  obtain ⟨fd, F⟩ := c.def_ 12 (d := d__law_same) rfl
  exact avh_bot (ps := p__law_same) (He.glo_ok X G (c.fact 12 (f := .glo "_law_same") rfl)) F.kp (FunD.bindsN F fun _ _ _ _ _ _ us hl => match us, hl with | [_, _], _ => rfl) (by decide +kernel)
theorem avh__law_same0 : AvH P w K mg base xcs 3 "_law_same" sp__law_same0 := by
  obtain ⟨fd, F⟩ := c.def_ 12 (d := d__law_same) rfl
  have S : FnScope n__law_same p__law_same (defScope s__law_same) := ⟨rfl, rfl, rfl, by decide +kernel, rfl, by decide +kernel, by decide +kernel⟩
  refine def_avH (k := 1) (cl := cl__law_same0) (st := s__law_same) ((wd X G c cx).mono (by decide)) (fun p hp => ?_) (funD_fun F) (He.glo_ok X G (c.fact 12 (f := .glo "_law_same") rfl)) (FunD.bindsN F fun _ _ _ _ _ _ us hl => match us, hl with | [_, _], _ => rfl) (by decide +kernel) S ch__law_same (fun us G Q E h => ?_) (w__law_same0 true)
  · unfold cl__law_same0 at hp
    simp only [List.mem_cons, List.mem_nil_iff, or_false] at hp
    rcases hp with rfl
    · exact (avh__law_same_bot X G c cx).mono (by decide)
  · first | (obtain ⟨rfl, _⟩ := h; rfl) | (obtain ⟨_, rfl, _⟩ := h; rfl) | (obtain ⟨_, _, rfl, _⟩ := h; rfl) | (obtain ⟨_, _, _, rfl, _⟩ := h; rfl) | (obtain ⟨_, _, _, _, rfl, _⟩ := h; rfl) | (obtain ⟨_, _, _, _, _, rfl, _⟩ := h; rfl) | (obtain ⟨_, _, _, _, _, _, rfl, _⟩ := h; rfl) | (obtain ⟨_, _, _, _, _, _, _, rfl, _⟩ := h; rfl) | (obtain ⟨_, _, _, _, _, _, _, _, rfl, _⟩ := h; rfl) | (obtain ⟨_, _, _, _, _, _, _, _, _, rfl, _⟩ := h; rfl) | (obtain ⟨_, _, _, _, _, _, _, _, _, _, rfl, _⟩ := h; rfl) | (obtain ⟨_, _, _, _, _, _, _, _, _, _, _, rfl, _⟩ := h; rfl) | (obtain ⟨_, _, _, _, _, _, _, _, _, _, _, _, rfl, _⟩ := h; rfl)
theorem avh__law_same : AvH P w K mg base xcs 4 "_law_same" sp__law_same := by
  obtain ⟨fd, F⟩ := c.def_ 12 (d := d__law_same) rfl
  have S : FnScope n__law_same p__law_same (defScope s__law_same) := ⟨rfl, rfl, rfl, by decide +kernel, rfl, by decide +kernel, by decide +kernel⟩
  refine def_avH (k := 2) (cl := cl__law_same) (st := s__law_same) ((wd X G c cx).mono (by decide)) (fun p hp => ?_) (funD_fun F) (He.glo_ok X G (c.fact 12 (f := .glo "_law_same") rfl)) (FunD.bindsN F fun _ _ _ _ _ _ us hl => match us, hl with | [_, _], _ => rfl) (by decide +kernel) S ch__law_same (fun us G Q E h => ?_) (w__law_same true)
  · unfold cl__law_same at hp
    simp only [List.mem_cons, List.mem_nil_iff, or_false] at hp
    rcases hp with rfl
    · exact (avh__law_same0 X G c cx).mono (by decide)
  · first | (obtain ⟨rfl, _⟩ := h; rfl) | (obtain ⟨_, rfl, _⟩ := h; rfl) | (obtain ⟨_, _, rfl, _⟩ := h; rfl) | (obtain ⟨_, _, _, rfl, _⟩ := h; rfl) | (obtain ⟨_, _, _, _, rfl, _⟩ := h; rfl) | (obtain ⟨_, _, _, _, _, rfl, _⟩ := h; rfl) | (obtain ⟨_, _, _, _, _, _, rfl, _⟩ := h; rfl) | (obtain ⟨_, _, _, _, _, _, _, rfl, _⟩ := h; rfl) | (obtain ⟨_, _, _, _, _, _, _, _, rfl, _⟩ := h; rfl) | (obtain ⟨_, _, _, _, _, _, _, _, _, rfl, _⟩ := h; rfl) | (obtain ⟨_, _, _, _, _, _, _, _, _, _, rfl, _⟩ := h; rfl) | (obtain ⟨_, _, _, _, _, _, _, _, _, _, _, rfl, _⟩ := h; rfl) | (obtain ⟨_, _, _, _, _, _, _, _, _, _, _, _, rfl, _⟩ := h; rfl)
theorem av_is_integer : Av P w K mg base xcs 3 "is_integer" sp_is_integer := by
  obtain ⟨fd, F⟩ := c.def_ 0 (d := d_is_integer) rfl
  have S : FnScope n_is_integer p_is_integer (defScope s_is_integer) := ⟨rfl, rfl, rfl, by decide +kernel, rfl, by decide +kernel, by decide +kernel⟩
  refine def_av (k := 1) (cl := cl_is_integer) (hcs := []) (st := s_is_integer) ((wd X G c cx).mono (by decide)) (fun p hp => ?_) (fun p hp => ?_) (funD_fun F) (He.glo_ok X G (c.fact 0 (f := .glo "is_integer") rfl)) (FunD.bindsN F fun _ _ _ _ _ _ us hl => match us, hl with | [_], _ => rfl) (by decide +kernel) (by decide +kernel) S c_is_integer (fun us G Q E h => ?_) w_is_integer
  · cases hp
  · cases hp
  · first | (obtain ⟨rfl, _⟩ := h; rfl) | (obtain ⟨_, rfl, _⟩ := h; rfl) | (obtain ⟨_, _, rfl, _⟩ := h; rfl) | (obtain ⟨_, _, _, rfl, _⟩ := h; rfl) | (obtain ⟨_, _, _, _, rfl, _⟩ := h; rfl) | (obtain ⟨_, _, _, _, _, rfl, _⟩ := h; rfl) | (obtain ⟨_, _, _, _, _, _, rfl, _⟩ := h; rfl) | (obtain ⟨_, _, _, _, _, _, _, rfl, _⟩ := h; rfl) | (obtain ⟨_, _, _, _, _, _, _, _, rfl, _⟩ := h; rfl) | (obtain ⟨_, _, _, _, _, _, _, _, _, rfl, _⟩ := h; rfl) | (obtain ⟨_, _, _, _, _, _, _, _, _, _, rfl, _⟩ := h; rfl) | (obtain ⟨_, _, _, _, _, _, _, _, _, _, _, rfl, _⟩ := h; rfl) | (obtain ⟨_, _, _, _, _, _, _, _, _, _, _, _, rfl, _⟩ := h; rfl)
theorem av__sound_figures : Av P w K mg base xcs 3 "_sound_figures" sp__sound_figures := by
  obtain ⟨fd, F⟩ := c.def_ 4 (d := d__sound_figures) rfl
  have S : FnScope n__sound_figures p__sound_figures (defScope s__sound_figures) := ⟨rfl, rfl, rfl, by decide +kernel, rfl, by decide +kernel, by decide +kernel⟩
  refine def_av (k := 1) (cl := cl__sound_figures) (hcs := []) (st := s__sound_figures) ((wd X G c cx).mono (by decide)) (fun p hp => ?_) (fun p hp => ?_) (funD_fun F) (He.glo_ok X G (c.fact 4 (f := .glo "_sound_figures") rfl)) (FunD.bindsN F fun _ _ _ _ _ _ us hl => match us, hl with | [_], _ => rfl) (by decide +kernel) (by decide +kernel) S c__sound_figures (fun us G Q E h => ?_) w__sound_figures
  · cases hp
  · cases hp
  · first | (obtain ⟨rfl, _⟩ := h; rfl) | (obtain ⟨_, rfl, _⟩ := h; rfl) | (obtain ⟨_, _, rfl, _⟩ := h; rfl) | (obtain ⟨_, _, _, rfl, _⟩ := h; rfl) | (obtain ⟨_, _, _, _, rfl, _⟩ := h; rfl) | (obtain ⟨_, _, _, _, _, rfl, _⟩ := h; rfl) | (obtain ⟨_, _, _, _, _, _, rfl, _⟩ := h; rfl) | (obtain ⟨_, _, _, _, _, _, _, rfl, _⟩ := h; rfl) | (obtain ⟨_, _, _, _, _, _, _, _, rfl, _⟩ := h; rfl) | (obtain ⟨_, _, _, _, _, _, _, _, _, rfl, _⟩ := h; rfl) | (obtain ⟨_, _, _, _, _, _, _, _, _, _, rfl, _⟩ := h; rfl) | (obtain ⟨_, _, _, _, _, _, _, _, _, _, _, rfl, _⟩ := h; rfl) | (obtain ⟨_, _, _, _, _, _, _, _, _, _, _, _, rfl, _⟩ := h; rfl)
theorem av__sound_text_stated : Av P w K mg base xcs 3 "_sound_text_stated" sp__sound_text_stated := by
  obtain ⟨fd, F⟩ := c.def_ 7 (d := d__sound_text_stated) rfl
  have S : FnScope n__sound_text_stated p__sound_text_stated (defScope s__sound_text_stated) := ⟨rfl, rfl, rfl, by decide +kernel, rfl, by decide +kernel, by decide +kernel⟩
  refine def_av (k := 1) (cl := cl__sound_text_stated) (hcs := []) (st := s__sound_text_stated) ((wd X G c cx).mono (by decide)) (fun p hp => ?_) (fun p hp => ?_) (funD_fun F) (He.glo_ok X G (c.fact 7 (f := .glo "_sound_text_stated") rfl)) (FunD.bindsN F fun _ _ _ _ _ _ us hl => match us, hl with | [_], _ => rfl) (by decide +kernel) (by decide +kernel) S c__sound_text_stated (fun us G Q E h => ?_) w__sound_text_stated
  · cases hp
  · cases hp
  · first | (obtain ⟨rfl, _⟩ := h; rfl) | (obtain ⟨_, rfl, _⟩ := h; rfl) | (obtain ⟨_, _, rfl, _⟩ := h; rfl) | (obtain ⟨_, _, _, rfl, _⟩ := h; rfl) | (obtain ⟨_, _, _, _, rfl, _⟩ := h; rfl) | (obtain ⟨_, _, _, _, _, rfl, _⟩ := h; rfl) | (obtain ⟨_, _, _, _, _, _, rfl, _⟩ := h; rfl) | (obtain ⟨_, _, _, _, _, _, _, rfl, _⟩ := h; rfl) | (obtain ⟨_, _, _, _, _, _, _, _, rfl, _⟩ := h; rfl) | (obtain ⟨_, _, _, _, _, _, _, _, _, rfl, _⟩ := h; rfl) | (obtain ⟨_, _, _, _, _, _, _, _, _, _, rfl, _⟩ := h; rfl) | (obtain ⟨_, _, _, _, _, _, _, _, _, _, _, rfl, _⟩ := h; rfl) | (obtain ⟨_, _, _, _, _, _, _, _, _, _, _, _, rfl, _⟩ := h; rfl)
theorem av__law_deck : Av P w K mg base xcs 3 "_law_deck" sp__law_deck := by
  obtain ⟨fd, F⟩ := c.def_ 9 (d := d__law_deck) rfl
  have S : FnScope n__law_deck p__law_deck (defScope s__law_deck) := ⟨rfl, rfl, rfl, by decide +kernel, rfl, by decide +kernel, by decide +kernel⟩
  refine def_av (k := 1) (cl := cl__law_deck) (hcs := []) (st := s__law_deck) ((wd X G c cx).mono (by decide)) (fun p hp => ?_) (fun p hp => ?_) (funD_fun F) (He.glo_ok X G (c.fact 9 (f := .glo "_law_deck") rfl)) (FunD.bindsN F fun _ _ _ _ _ _ us hl => match us, hl with | [_], _ => rfl) (by decide +kernel) (by decide +kernel) S c__law_deck (fun us G Q E h => ?_) w__law_deck
  · cases hp
  · cases hp
  · first | (obtain ⟨rfl, _⟩ := h; rfl) | (obtain ⟨_, rfl, _⟩ := h; rfl) | (obtain ⟨_, _, rfl, _⟩ := h; rfl) | (obtain ⟨_, _, _, rfl, _⟩ := h; rfl) | (obtain ⟨_, _, _, _, rfl, _⟩ := h; rfl) | (obtain ⟨_, _, _, _, _, rfl, _⟩ := h; rfl) | (obtain ⟨_, _, _, _, _, _, rfl, _⟩ := h; rfl) | (obtain ⟨_, _, _, _, _, _, _, rfl, _⟩ := h; rfl) | (obtain ⟨_, _, _, _, _, _, _, _, rfl, _⟩ := h; rfl) | (obtain ⟨_, _, _, _, _, _, _, _, _, rfl, _⟩ := h; rfl) | (obtain ⟨_, _, _, _, _, _, _, _, _, _, rfl, _⟩ := h; rfl) | (obtain ⟨_, _, _, _, _, _, _, _, _, _, _, rfl, _⟩ := h; rfl) | (obtain ⟨_, _, _, _, _, _, _, _, _, _, _, _, rfl, _⟩ := h; rfl)
theorem av__law_take : Av P w K mg base xcs 3 "_law_take" sp__law_take := by
  obtain ⟨fd, F⟩ := c.def_ 10 (d := d__law_take) rfl
  have S : FnScope n__law_take p__law_take (defScope s__law_take) := ⟨rfl, rfl, rfl, by decide +kernel, rfl, by decide +kernel, by decide +kernel⟩
  refine def_av (k := 1) (cl := cl__law_take) (hcs := []) (st := s__law_take) ((wd X G c cx).mono (by decide)) (fun p hp => ?_) (fun p hp => ?_) (funD_fun F) (He.glo_ok X G (c.fact 10 (f := .glo "_law_take") rfl)) (FunD.bindsN F fun _ _ _ _ _ _ us hl => match us, hl with | [_, _], _ => rfl) (by decide +kernel) (by decide +kernel) S c__law_take (fun us G Q E h => ?_) w__law_take
  · cases hp
  · cases hp
  · first | (obtain ⟨rfl, _⟩ := h; rfl) | (obtain ⟨_, rfl, _⟩ := h; rfl) | (obtain ⟨_, _, rfl, _⟩ := h; rfl) | (obtain ⟨_, _, _, rfl, _⟩ := h; rfl) | (obtain ⟨_, _, _, _, rfl, _⟩ := h; rfl) | (obtain ⟨_, _, _, _, _, rfl, _⟩ := h; rfl) | (obtain ⟨_, _, _, _, _, _, rfl, _⟩ := h; rfl) | (obtain ⟨_, _, _, _, _, _, _, rfl, _⟩ := h; rfl) | (obtain ⟨_, _, _, _, _, _, _, _, rfl, _⟩ := h; rfl) | (obtain ⟨_, _, _, _, _, _, _, _, _, rfl, _⟩ := h; rfl) | (obtain ⟨_, _, _, _, _, _, _, _, _, _, rfl, _⟩ := h; rfl) | (obtain ⟨_, _, _, _, _, _, _, _, _, _, _, rfl, _⟩ := h; rfl) | (obtain ⟨_, _, _, _, _, _, _, _, _, _, _, _, rfl, _⟩ := h; rfl)
theorem av__law_number : Av P w K mg base xcs 3 "_law_number" sp__law_number := by
  obtain ⟨fd, F⟩ := c.def_ 13 (d := d__law_number) rfl
  have S : FnScope n__law_number p__law_number (defScope s__law_number) := ⟨rfl, rfl, rfl, by decide +kernel, rfl, by decide +kernel, by decide +kernel⟩
  refine def_av (k := 1) (cl := cl__law_number) (hcs := []) (st := s__law_number) ((wd X G c cx).mono (by decide)) (fun p hp => ?_) (fun p hp => ?_) (funD_fun F) (He.glo_ok X G (c.fact 13 (f := .glo "_law_number") rfl)) (FunD.bindsN F fun _ _ _ _ _ _ us hl => match us, hl with | [_, _], _ => rfl) (by decide +kernel) (by decide +kernel) S c__law_number (fun us G Q E h => ?_) w__law_number
  · cases hp
  · cases hp
  · first | (obtain ⟨rfl, _⟩ := h; rfl) | (obtain ⟨_, rfl, _⟩ := h; rfl) | (obtain ⟨_, _, rfl, _⟩ := h; rfl) | (obtain ⟨_, _, _, rfl, _⟩ := h; rfl) | (obtain ⟨_, _, _, _, rfl, _⟩ := h; rfl) | (obtain ⟨_, _, _, _, _, rfl, _⟩ := h; rfl) | (obtain ⟨_, _, _, _, _, _, rfl, _⟩ := h; rfl) | (obtain ⟨_, _, _, _, _, _, _, rfl, _⟩ := h; rfl) | (obtain ⟨_, _, _, _, _, _, _, _, rfl, _⟩ := h; rfl) | (obtain ⟨_, _, _, _, _, _, _, _, _, rfl, _⟩ := h; rfl) | (obtain ⟨_, _, _, _, _, _, _, _, _, _, rfl, _⟩ := h; rfl) | (obtain ⟨_, _, _, _, _, _, _, _, _, _, _, rfl, _⟩ := h; rfl) | (obtain ⟨_, _, _, _, _, _, _, _, _, _, _, _, rfl, _⟩ := h; rfl)
theorem av__law_sound_text : Av P w K mg base xcs 3 "_law_sound_text" sp__law_sound_text := by
  obtain ⟨fd, F⟩ := c.def_ 14 (d := d__law_sound_text) rfl
  have S : FnScope n__law_sound_text p__law_sound_text (defScope s__law_sound_text) := ⟨rfl, rfl, rfl, by decide +kernel, rfl, by decide +kernel, by decide +kernel⟩
  refine def_av (k := 1) (cl := cl__law_sound_text) (hcs := []) (st := s__law_sound_text) ((wd X G c cx).mono (by decide)) (fun p hp => ?_) (fun p hp => ?_) (funD_fun F) (He.glo_ok X G (c.fact 14 (f := .glo "_law_sound_text") rfl)) (FunD.bindsN F fun _ _ _ _ _ _ us hl => match us, hl with | [_], _ => rfl) (by decide +kernel) (by decide +kernel) S c__law_sound_text (fun us G Q E h => ?_) w__law_sound_text
  · cases hp
  · cases hp
  · first | (obtain ⟨rfl, _⟩ := h; rfl) | (obtain ⟨_, rfl, _⟩ := h; rfl) | (obtain ⟨_, _, rfl, _⟩ := h; rfl) | (obtain ⟨_, _, _, rfl, _⟩ := h; rfl) | (obtain ⟨_, _, _, _, rfl, _⟩ := h; rfl) | (obtain ⟨_, _, _, _, _, rfl, _⟩ := h; rfl) | (obtain ⟨_, _, _, _, _, _, rfl, _⟩ := h; rfl) | (obtain ⟨_, _, _, _, _, _, _, rfl, _⟩ := h; rfl) | (obtain ⟨_, _, _, _, _, _, _, _, rfl, _⟩ := h; rfl) | (obtain ⟨_, _, _, _, _, _, _, _, _, rfl, _⟩ := h; rfl) | (obtain ⟨_, _, _, _, _, _, _, _, _, _, rfl, _⟩ := h; rfl) | (obtain ⟨_, _, _, _, _, _, _, _, _, _, _, rfl, _⟩ := h; rfl) | (obtain ⟨_, _, _, _, _, _, _, _, _, _, _, _, rfl, _⟩ := h; rfl)
theorem av_is_worth : Av P w K mg base xcs 4 "is_worth" sp_is_worth := by
  obtain ⟨fd, F⟩ := c.def_ 1 (d := d_is_worth) rfl
  have S : FnScope n_is_worth p_is_worth (defScope s_is_worth) := ⟨rfl, rfl, rfl, by decide +kernel, rfl, by decide +kernel, by decide +kernel⟩
  refine def_av (k := 2) (cl := cl_is_worth) (hcs := []) (st := s_is_worth) ((wd X G c cx).mono (by decide)) (fun p hp => ?_) (fun p hp => ?_) (funD_fun F) (He.glo_ok X G (c.fact 1 (f := .glo "is_worth") rfl)) (FunD.bindsN F fun _ _ _ _ _ _ us hl => match us, hl with | [_], _ => rfl) (by decide +kernel) (by decide +kernel) S c_is_worth (fun us G Q E h => ?_) w_is_worth
  · unfold cl_is_worth at hp
    simp only [List.mem_cons, List.mem_nil_iff, or_false] at hp
    rcases hp with rfl
    · exact (av_is_integer X G c cx).mono (by decide)
  · cases hp
  · first | (obtain ⟨rfl, _⟩ := h; rfl) | (obtain ⟨_, rfl, _⟩ := h; rfl) | (obtain ⟨_, _, rfl, _⟩ := h; rfl) | (obtain ⟨_, _, _, rfl, _⟩ := h; rfl) | (obtain ⟨_, _, _, _, rfl, _⟩ := h; rfl) | (obtain ⟨_, _, _, _, _, rfl, _⟩ := h; rfl) | (obtain ⟨_, _, _, _, _, _, rfl, _⟩ := h; rfl) | (obtain ⟨_, _, _, _, _, _, _, rfl, _⟩ := h; rfl) | (obtain ⟨_, _, _, _, _, _, _, _, rfl, _⟩ := h; rfl) | (obtain ⟨_, _, _, _, _, _, _, _, _, rfl, _⟩ := h; rfl) | (obtain ⟨_, _, _, _, _, _, _, _, _, _, rfl, _⟩ := h; rfl) | (obtain ⟨_, _, _, _, _, _, _, _, _, _, _, rfl, _⟩ := h; rfl) | (obtain ⟨_, _, _, _, _, _, _, _, _, _, _, _, rfl, _⟩ := h; rfl)
theorem av__law_pick : Av P w K mg base xcs 4 "_law_pick" sp__law_pick := by
  obtain ⟨fd, F⟩ := c.def_ 11 (d := d__law_pick) rfl
  have S : FnScope n__law_pick p__law_pick (defScope s__law_pick) := ⟨rfl, rfl, rfl, by decide +kernel, rfl, by decide +kernel, by decide +kernel⟩
  refine def_av (k := 2) (cl := cl__law_pick) (hcs := []) (st := s__law_pick) ((wd X G c cx).mono (by decide)) (fun p hp => ?_) (fun p hp => ?_) (funD_fun F) (He.glo_ok X G (c.fact 11 (f := .glo "_law_pick") rfl)) (FunD.bindsN F fun _ _ _ _ _ _ us hl => match us, hl with | [_, _], _ => rfl) (by decide +kernel) (by decide +kernel) S c__law_pick (fun us G Q E h => ?_) w__law_pick
  · unfold cl__law_pick at hp
    simp only [List.mem_cons, List.mem_nil_iff, or_false] at hp
    rcases hp with rfl
    · exact (av__law_take X G c cx).mono (by decide)
  · cases hp
  · first | (obtain ⟨rfl, _⟩ := h; rfl) | (obtain ⟨_, rfl, _⟩ := h; rfl) | (obtain ⟨_, _, rfl, _⟩ := h; rfl) | (obtain ⟨_, _, _, rfl, _⟩ := h; rfl) | (obtain ⟨_, _, _, _, rfl, _⟩ := h; rfl) | (obtain ⟨_, _, _, _, _, rfl, _⟩ := h; rfl) | (obtain ⟨_, _, _, _, _, _, rfl, _⟩ := h; rfl) | (obtain ⟨_, _, _, _, _, _, _, rfl, _⟩ := h; rfl) | (obtain ⟨_, _, _, _, _, _, _, _, rfl, _⟩ := h; rfl) | (obtain ⟨_, _, _, _, _, _, _, _, _, rfl, _⟩ := h; rfl) | (obtain ⟨_, _, _, _, _, _, _, _, _, _, rfl, _⟩ := h; rfl) | (obtain ⟨_, _, _, _, _, _, _, _, _, _, _, rfl, _⟩ := h; rfl) | (obtain ⟨_, _, _, _, _, _, _, _, _, _, _, _, rfl, _⟩ := h; rfl)
theorem av__law_same_bot : Av P w K mg base xcs 1 "_law_same" (fun _ _ _ _ => False) := by
  obtain ⟨fd, F⟩ := c.def_ 12 (d := d__law_same) rfl
  exact av_bot (ps := p__law_same) (He.glo_ok X G (c.fact 12 (f := .glo "_law_same") rfl)) F.kp (FunD.bindsN F fun _ _ _ _ _ _ us hl => match us, hl with | [_, _], _ => rfl) (by decide +kernel) (by decide +kernel)
theorem av__law_same0 : Av P w K mg base xcs 3 "_law_same" sp__law_same0 := by
  obtain ⟨fd, F⟩ := c.def_ 12 (d := d__law_same) rfl
  have S : FnScope n__law_same p__law_same (defScope s__law_same) := ⟨rfl, rfl, rfl, by decide +kernel, rfl, by decide +kernel, by decide +kernel⟩
  refine def_av (k := 1) (cl := cl__law_same0) (hcs := []) (st := s__law_same) ((wd X G c cx).mono (by decide)) (fun p hp => ?_) (fun p hp => ?_) (funD_fun F) (He.glo_ok X G (c.fact 12 (f := .glo "_law_same") rfl)) (FunD.bindsN F fun _ _ _ _ _ _ us hl => match us, hl with | [_, _], _ => rfl) (by decide +kernel) (by decide +kernel) S c__law_same (fun us G Q E h => ?_) (w__law_same0 false)
  · unfold cl__law_same0 at hp
    simp only [List.mem_cons, List.mem_nil_iff, or_false] at hp
    rcases hp with rfl
    · exact (av__law_same_bot X G c cx).mono (by decide)
  · cases hp
  · first | (obtain ⟨rfl, _⟩ := h; rfl) | (obtain ⟨_, rfl, _⟩ := h; rfl) | (obtain ⟨_, _, rfl, _⟩ := h; rfl) | (obtain ⟨_, _, _, rfl, _⟩ := h; rfl) | (obtain ⟨_, _, _, _, rfl, _⟩ := h; rfl) | (obtain ⟨_, _, _, _, _, rfl, _⟩ := h; rfl) | (obtain ⟨_, _, _, _, _, _, rfl, _⟩ := h; rfl) | (obtain ⟨_, _, _, _, _, _, _, rfl, _⟩ := h; rfl) | (obtain ⟨_, _, _, _, _, _, _, _, rfl, _⟩ := h; rfl) | (obtain ⟨_, _, _, _, _, _, _, _, _, rfl, _⟩ := h; rfl) | (obtain ⟨_, _, _, _, _, _, _, _, _, _, rfl, _⟩ := h; rfl) | (obtain ⟨_, _, _, _, _, _, _, _, _, _, _, rfl, _⟩ := h; rfl) | (obtain ⟨_, _, _, _, _, _, _, _, _, _, _, _, rfl, _⟩ := h; rfl)
theorem av__law_same : Av P w K mg base xcs 4 "_law_same" sp__law_same := by
  obtain ⟨fd, F⟩ := c.def_ 12 (d := d__law_same) rfl
  have S : FnScope n__law_same p__law_same (defScope s__law_same) := ⟨rfl, rfl, rfl, by decide +kernel, rfl, by decide +kernel, by decide +kernel⟩
  refine def_av (k := 2) (cl := cl__law_same) (hcs := []) (st := s__law_same) ((wd X G c cx).mono (by decide)) (fun p hp => ?_) (fun p hp => ?_) (funD_fun F) (He.glo_ok X G (c.fact 12 (f := .glo "_law_same") rfl)) (FunD.bindsN F fun _ _ _ _ _ _ us hl => match us, hl with | [_, _], _ => rfl) (by decide +kernel) (by decide +kernel) S c__law_same (fun us G Q E h => ?_) (w__law_same false)
  · unfold cl__law_same at hp
    simp only [List.mem_cons, List.mem_nil_iff, or_false] at hp
    rcases hp with rfl
    · exact (av__law_same0 X G c cx).mono (by decide)
  · cases hp
  · first | (obtain ⟨rfl, _⟩ := h; rfl) | (obtain ⟨_, rfl, _⟩ := h; rfl) | (obtain ⟨_, _, rfl, _⟩ := h; rfl) | (obtain ⟨_, _, _, rfl, _⟩ := h; rfl) | (obtain ⟨_, _, _, _, rfl, _⟩ := h; rfl) | (obtain ⟨_, _, _, _, _, rfl, _⟩ := h; rfl) | (obtain ⟨_, _, _, _, _, _, rfl, _⟩ := h; rfl) | (obtain ⟨_, _, _, _, _, _, _, rfl, _⟩ := h; rfl) | (obtain ⟨_, _, _, _, _, _, _, _, rfl, _⟩ := h; rfl) | (obtain ⟨_, _, _, _, _, _, _, _, _, rfl, _⟩ := h; rfl) | (obtain ⟨_, _, _, _, _, _, _, _, _, _, rfl, _⟩ := h; rfl) | (obtain ⟨_, _, _, _, _, _, _, _, _, _, _, rfl, _⟩ := h; rfl) | (obtain ⟨_, _, _, _, _, _, _, _, _, _, _, _, rfl, _⟩ := h; rfl)
theorem av__law_read_sound : Av P w K mg base xcs 4 "_law_read_sound" sp__law_read_sound := by
  obtain ⟨fd, F⟩ := c.def_ 15 (d := d__law_read_sound) rfl
  have S : FnScope n__law_read_sound p__law_read_sound (defScope s__law_read_sound) := ⟨rfl, rfl, rfl, by decide +kernel, rfl, by decide +kernel, by decide +kernel⟩
  refine def_av (k := 2) (cl := cl__law_read_sound) (hcs := []) (st := s__law_read_sound) ((wd X G c cx).mono (by decide)) (fun p hp => ?_) (fun p hp => ?_) (funD_fun F) (He.glo_ok X G (c.fact 15 (f := .glo "_law_read_sound") rfl)) (FunD.bindsN F fun _ _ _ _ _ _ us hl => match us, hl with | [_], _ => rfl) (by decide +kernel) (by decide +kernel) S c__law_read_sound (fun us G Q E h => ?_) w__law_read_sound
  · unfold cl__law_read_sound at hp
    simp only [List.mem_cons, List.mem_nil_iff, or_false] at hp
    rcases hp with rfl
    · exact (av__law_number X G c cx).mono (by decide)
  · cases hp
  · first | (obtain ⟨rfl, _⟩ := h; rfl) | (obtain ⟨_, rfl, _⟩ := h; rfl) | (obtain ⟨_, _, rfl, _⟩ := h; rfl) | (obtain ⟨_, _, _, rfl, _⟩ := h; rfl) | (obtain ⟨_, _, _, _, rfl, _⟩ := h; rfl) | (obtain ⟨_, _, _, _, _, rfl, _⟩ := h; rfl) | (obtain ⟨_, _, _, _, _, _, rfl, _⟩ := h; rfl) | (obtain ⟨_, _, _, _, _, _, _, rfl, _⟩ := h; rfl) | (obtain ⟨_, _, _, _, _, _, _, _, rfl, _⟩ := h; rfl) | (obtain ⟨_, _, _, _, _, _, _, _, _, rfl, _⟩ := h; rfl) | (obtain ⟨_, _, _, _, _, _, _, _, _, _, rfl, _⟩ := h; rfl) | (obtain ⟨_, _, _, _, _, _, _, _, _, _, _, rfl, _⟩ := h; rfl) | (obtain ⟨_, _, _, _, _, _, _, _, _, _, _, _, rfl, _⟩ := h; rfl)
theorem av_is_sound : Av P w K mg base xcs 5 "is_sound" sp_is_sound := by
  obtain ⟨fd, F⟩ := c.def_ 2 (d := d_is_sound) rfl
  have S : FnScope n_is_sound p_is_sound (defScope s_is_sound) := ⟨rfl, rfl, rfl, by decide +kernel, rfl, by decide +kernel, by decide +kernel⟩
  refine def_av (k := 3) (cl := cl_is_sound) (hcs := []) (st := s_is_sound) ((wd X G c cx).mono (by decide)) (fun p hp => ?_) (fun p hp => ?_) (funD_fun F) (He.glo_ok X G (c.fact 2 (f := .glo "is_sound") rfl)) (FunD.bindsN F fun _ _ _ _ _ _ us hl => match us, hl with | [_], _ => rfl) (by decide +kernel) (by decide +kernel) S c_is_sound (fun us G Q E h => ?_) w_is_sound
  · unfold cl_is_sound at hp
    simp only [List.mem_cons, List.mem_nil_iff, or_false] at hp
    rcases hp with rfl
    · exact (av_is_worth X G c cx).mono (by decide)
  · cases hp
  · first | (obtain ⟨rfl, _⟩ := h; rfl) | (obtain ⟨_, rfl, _⟩ := h; rfl) | (obtain ⟨_, _, rfl, _⟩ := h; rfl) | (obtain ⟨_, _, _, rfl, _⟩ := h; rfl) | (obtain ⟨_, _, _, _, rfl, _⟩ := h; rfl) | (obtain ⟨_, _, _, _, _, rfl, _⟩ := h; rfl) | (obtain ⟨_, _, _, _, _, _, rfl, _⟩ := h; rfl) | (obtain ⟨_, _, _, _, _, _, _, rfl, _⟩ := h; rfl) | (obtain ⟨_, _, _, _, _, _, _, _, rfl, _⟩ := h; rfl) | (obtain ⟨_, _, _, _, _, _, _, _, _, rfl, _⟩ := h; rfl) | (obtain ⟨_, _, _, _, _, _, _, _, _, _, rfl, _⟩ := h; rfl) | (obtain ⟨_, _, _, _, _, _, _, _, _, _, _, rfl, _⟩ := h; rfl) | (obtain ⟨_, _, _, _, _, _, _, _, _, _, _, _, rfl, _⟩ := h; rfl)
theorem av__sound_worth : Av P w K mg base xcs 5 "_sound_worth" sp__sound_worth := by
  obtain ⟨fd, F⟩ := c.def_ 5 (d := d__sound_worth) rfl
  have S : FnScope n__sound_worth p__sound_worth (defScope s__sound_worth) := ⟨rfl, rfl, rfl, by decide +kernel, rfl, by decide +kernel, by decide +kernel⟩
  refine def_av (k := 3) (cl := cl__sound_worth) (hcs := []) (st := s__sound_worth) ((wd X G c cx).mono (by decide)) (fun p hp => ?_) (fun p hp => ?_) (funD_fun F) (He.glo_ok X G (c.fact 5 (f := .glo "_sound_worth") rfl)) (FunD.bindsN F fun _ _ _ _ _ _ us hl => match us, hl with | [_], _ => rfl) (by decide +kernel) (by decide +kernel) S c__sound_worth (fun us G Q E h => ?_) w__sound_worth
  · unfold cl__sound_worth at hp
    simp only [List.mem_cons, List.mem_nil_iff, or_false] at hp
    rcases hp with rfl | rfl
    · exact (av__sound_figures X G c cx).mono (by decide)
    · exact (av_is_worth X G c cx).mono (by decide)
  · cases hp
  · first | (obtain ⟨rfl, _⟩ := h; rfl) | (obtain ⟨_, rfl, _⟩ := h; rfl) | (obtain ⟨_, _, rfl, _⟩ := h; rfl) | (obtain ⟨_, _, _, rfl, _⟩ := h; rfl) | (obtain ⟨_, _, _, _, rfl, _⟩ := h; rfl) | (obtain ⟨_, _, _, _, _, rfl, _⟩ := h; rfl) | (obtain ⟨_, _, _, _, _, _, rfl, _⟩ := h; rfl) | (obtain ⟨_, _, _, _, _, _, _, rfl, _⟩ := h; rfl) | (obtain ⟨_, _, _, _, _, _, _, _, rfl, _⟩ := h; rfl) | (obtain ⟨_, _, _, _, _, _, _, _, _, rfl, _⟩ := h; rfl) | (obtain ⟨_, _, _, _, _, _, _, _, _, _, rfl, _⟩ := h; rfl) | (obtain ⟨_, _, _, _, _, _, _, _, _, _, _, rfl, _⟩ := h; rfl) | (obtain ⟨_, _, _, _, _, _, _, _, _, _, _, _, rfl, _⟩ := h; rfl)
theorem av__law_bent_sound : Av P w K mg base xcs 5 "_law_bent_sound" sp__law_bent_sound := by
  obtain ⟨fd, F⟩ := c.def_ 16 (d := d__law_bent_sound) rfl
  have S : FnScope n__law_bent_sound p__law_bent_sound (defScope s__law_bent_sound) := ⟨rfl, rfl, rfl, by decide +kernel, rfl, by decide +kernel, by decide +kernel⟩
  refine def_av (k := 3) (cl := cl__law_bent_sound) (hcs := []) (st := s__law_bent_sound) ((wd X G c cx).mono (by decide)) (fun p hp => ?_) (fun p hp => ?_) (funD_fun F) (He.glo_ok X G (c.fact 16 (f := .glo "_law_bent_sound") rfl)) (FunD.bindsN F fun _ _ _ _ _ _ us hl => match us, hl with | [_, _], _ => rfl) (by decide +kernel) (by decide +kernel) S c__law_bent_sound (fun us G Q E h => ?_) w__law_bent_sound
  · unfold cl__law_bent_sound at hp
    simp only [List.mem_cons, List.mem_nil_iff, or_false] at hp
    rcases hp with rfl | rfl | rfl
    · exact (av__law_take X G c cx).mono (by decide)
    · exact (av__law_pick X G c cx).mono (by decide)
    · exact (av__law_number X G c cx).mono (by decide)
  · cases hp
  · first | (obtain ⟨rfl, _⟩ := h; rfl) | (obtain ⟨_, rfl, _⟩ := h; rfl) | (obtain ⟨_, _, rfl, _⟩ := h; rfl) | (obtain ⟨_, _, _, rfl, _⟩ := h; rfl) | (obtain ⟨_, _, _, _, rfl, _⟩ := h; rfl) | (obtain ⟨_, _, _, _, _, rfl, _⟩ := h; rfl) | (obtain ⟨_, _, _, _, _, _, rfl, _⟩ := h; rfl) | (obtain ⟨_, _, _, _, _, _, _, rfl, _⟩ := h; rfl) | (obtain ⟨_, _, _, _, _, _, _, _, rfl, _⟩ := h; rfl) | (obtain ⟨_, _, _, _, _, _, _, _, _, rfl, _⟩ := h; rfl) | (obtain ⟨_, _, _, _, _, _, _, _, _, _, rfl, _⟩ := h; rfl) | (obtain ⟨_, _, _, _, _, _, _, _, _, _, _, rfl, _⟩ := h; rfl) | (obtain ⟨_, _, _, _, _, _, _, _, _, _, _, _, rfl, _⟩ := h; rfl)
theorem av__law_sound : Av P w K mg base xcs 5 "_law_sound" sp__law_sound := by
  obtain ⟨fd, F⟩ := c.def_ 20 (d := d__law_sound) rfl
  have S : FnScope n__law_sound p__law_sound (defScope s__law_sound) := ⟨rfl, rfl, rfl, by decide +kernel, rfl, by decide +kernel, by decide +kernel⟩
  refine def_av (k := 3) (cl := cl__law_sound) (hcs := []) (st := s__law_sound) ((wd X G c cx).mono (by decide)) (fun p hp => ?_) (fun p hp => ?_) (funD_fun F) (He.glo_ok X G (c.fact 20 (f := .glo "_law_sound") rfl)) (FunD.bindsN F fun _ _ _ _ _ _ us hl => match us, hl with | [_], _ => rfl) (by decide +kernel) (by decide +kernel) S c__law_sound (fun us G Q E h => ?_) w__law_sound
  · unfold cl__law_sound at hp
    simp only [List.mem_cons, List.mem_nil_iff, or_false] at hp
    rcases hp with rfl | rfl
    · exact (av__law_take X G c cx).mono (by decide)
    · exact (av__law_pick X G c cx).mono (by decide)
  · cases hp
  · first | (obtain ⟨rfl, _⟩ := h; rfl) | (obtain ⟨_, rfl, _⟩ := h; rfl) | (obtain ⟨_, _, rfl, _⟩ := h; rfl) | (obtain ⟨_, _, _, rfl, _⟩ := h; rfl) | (obtain ⟨_, _, _, _, rfl, _⟩ := h; rfl) | (obtain ⟨_, _, _, _, _, rfl, _⟩ := h; rfl) | (obtain ⟨_, _, _, _, _, _, rfl, _⟩ := h; rfl) | (obtain ⟨_, _, _, _, _, _, _, rfl, _⟩ := h; rfl) | (obtain ⟨_, _, _, _, _, _, _, _, rfl, _⟩ := h; rfl) | (obtain ⟨_, _, _, _, _, _, _, _, _, rfl, _⟩ := h; rfl) | (obtain ⟨_, _, _, _, _, _, _, _, _, _, rfl, _⟩ := h; rfl) | (obtain ⟨_, _, _, _, _, _, _, _, _, _, _, rfl, _⟩ := h; rfl) | (obtain ⟨_, _, _, _, _, _, _, _, _, _, _, _, rfl, _⟩ := h; rfl)
theorem av_show_sound : Av P w K mg base xcs 6 "show_sound" sp_show_sound := by
  obtain ⟨fd, F⟩ := c.def_ 3 (d := d_show_sound) rfl
  have S : FnScope n_show_sound p_show_sound (defScope s_show_sound) := ⟨rfl, rfl, rfl, by decide +kernel, rfl, by decide +kernel, by decide +kernel⟩
  refine def_av (k := 4) (cl := cl_show_sound) (hcs := []) (st := s_show_sound) ((wd X G c cx).mono (by decide)) (fun p hp => ?_) (fun p hp => ?_) (funD_fun F) (He.glo_ok X G (c.fact 3 (f := .glo "show_sound") rfl)) (FunD.bindsN F fun _ _ _ _ _ _ us hl => match us, hl with | [_], _ => rfl) (by decide +kernel) (by decide +kernel) S c_show_sound (fun us G Q E h => ?_) w_show_sound
  · unfold cl_show_sound at hp
    simp only [List.mem_cons, List.mem_nil_iff, or_false] at hp
    rcases hp with rfl
    · exact (av_is_sound X G c cx).mono (by decide)
  · cases hp
  · first | (obtain ⟨rfl, _⟩ := h; rfl) | (obtain ⟨_, rfl, _⟩ := h; rfl) | (obtain ⟨_, _, rfl, _⟩ := h; rfl) | (obtain ⟨_, _, _, rfl, _⟩ := h; rfl) | (obtain ⟨_, _, _, _, rfl, _⟩ := h; rfl) | (obtain ⟨_, _, _, _, _, rfl, _⟩ := h; rfl) | (obtain ⟨_, _, _, _, _, _, rfl, _⟩ := h; rfl) | (obtain ⟨_, _, _, _, _, _, _, rfl, _⟩ := h; rfl) | (obtain ⟨_, _, _, _, _, _, _, _, rfl, _⟩ := h; rfl) | (obtain ⟨_, _, _, _, _, _, _, _, _, rfl, _⟩ := h; rfl) | (obtain ⟨_, _, _, _, _, _, _, _, _, _, rfl, _⟩ := h; rfl) | (obtain ⟨_, _, _, _, _, _, _, _, _, _, _, rfl, _⟩ := h; rfl) | (obtain ⟨_, _, _, _, _, _, _, _, _, _, _, _, rfl, _⟩ := h; rfl)
theorem av__sound_stretch : Av P w K mg base xcs 6 "_sound_stretch" sp__sound_stretch := by
  obtain ⟨fd, F⟩ := c.def_ 6 (d := d__sound_stretch) rfl
  have S : FnScope n__sound_stretch p__sound_stretch (defScope s__sound_stretch) := ⟨rfl, rfl, rfl, by decide +kernel, rfl, by decide +kernel, by decide +kernel⟩
  refine def_av (k := 4) (cl := cl__sound_stretch) (hcs := []) (st := s__sound_stretch) ((wd X G c cx).mono (by decide)) (fun p hp => ?_) (fun p hp => ?_) (funD_fun F) (He.glo_ok X G (c.fact 6 (f := .glo "_sound_stretch") rfl)) (FunD.bindsN F fun _ _ _ _ _ _ us hl => match us, hl with | [_], _ => rfl) (by decide +kernel) (by decide +kernel) S c__sound_stretch (fun us G Q E h => ?_) w__sound_stretch
  · unfold cl__sound_stretch at hp
    simp only [List.mem_cons, List.mem_nil_iff, or_false] at hp
    rcases hp with rfl | rfl
    · exact (av__sound_figures X G c cx).mono (by decide)
    · exact (av__sound_worth X G c cx).mono (by decide)
  · cases hp
  · first | (obtain ⟨rfl, _⟩ := h; rfl) | (obtain ⟨_, rfl, _⟩ := h; rfl) | (obtain ⟨_, _, rfl, _⟩ := h; rfl) | (obtain ⟨_, _, _, rfl, _⟩ := h; rfl) | (obtain ⟨_, _, _, _, rfl, _⟩ := h; rfl) | (obtain ⟨_, _, _, _, _, rfl, _⟩ := h; rfl) | (obtain ⟨_, _, _, _, _, _, rfl, _⟩ := h; rfl) | (obtain ⟨_, _, _, _, _, _, _, rfl, _⟩ := h; rfl) | (obtain ⟨_, _, _, _, _, _, _, _, rfl, _⟩ := h; rfl) | (obtain ⟨_, _, _, _, _, _, _, _, _, rfl, _⟩ := h; rfl) | (obtain ⟨_, _, _, _, _, _, _, _, _, _, rfl, _⟩ := h; rfl) | (obtain ⟨_, _, _, _, _, _, _, _, _, _, _, rfl, _⟩ := h; rfl) | (obtain ⟨_, _, _, _, _, _, _, _, _, _, _, _, rfl, _⟩ := h; rfl)
theorem av_read_sound : Av P w K mg base xcs 7 "read_sound" sp_read_sound := by
  obtain ⟨fd, F⟩ := c.def_ 8 (d := d_read_sound) rfl
  have S : FnScope n_read_sound p_read_sound (defScope s_read_sound) := ⟨rfl, rfl, rfl, by decide +kernel, rfl, by decide +kernel, by decide +kernel⟩
  refine def_av (k := 5) (cl := cl_read_sound) (hcs := []) (st := s_read_sound) ((wd X G c cx).mono (by decide)) (fun p hp => ?_) (fun p hp => ?_) (funD_fun F) (He.glo_ok X G (c.fact 8 (f := .glo "read_sound") rfl)) (FunD.bindsN F fun _ _ _ _ _ _ us hl => match us, hl with | [_], _ => rfl) (by decide +kernel) (by decide +kernel) S c_read_sound (fun us G Q E h => ?_) w_read_sound
  · unfold cl_read_sound at hp
    simp only [List.mem_cons, List.mem_nil_iff, or_false] at hp
    rcases hp with rfl | rfl | rfl
    · exact (av__sound_text_stated X G c cx).mono (by decide)
    · exact (av__sound_figures X G c cx).mono (by decide)
    · exact (av__sound_stretch X G c cx).mono (by decide)
  · cases hp
  · first | (obtain ⟨rfl, _⟩ := h; rfl) | (obtain ⟨_, rfl, _⟩ := h; rfl) | (obtain ⟨_, _, rfl, _⟩ := h; rfl) | (obtain ⟨_, _, _, rfl, _⟩ := h; rfl) | (obtain ⟨_, _, _, _, rfl, _⟩ := h; rfl) | (obtain ⟨_, _, _, _, _, rfl, _⟩ := h; rfl) | (obtain ⟨_, _, _, _, _, _, rfl, _⟩ := h; rfl) | (obtain ⟨_, _, _, _, _, _, _, rfl, _⟩ := h; rfl) | (obtain ⟨_, _, _, _, _, _, _, _, rfl, _⟩ := h; rfl) | (obtain ⟨_, _, _, _, _, _, _, _, _, rfl, _⟩ := h; rfl) | (obtain ⟨_, _, _, _, _, _, _, _, _, _, rfl, _⟩ := h; rfl) | (obtain ⟨_, _, _, _, _, _, _, _, _, _, _, rfl, _⟩ := h; rfl) | (obtain ⟨_, _, _, _, _, _, _, _, _, _, _, _, rfl, _⟩ := h; rfl)
theorem av__law_heard : Av P w K mg base xcs 8 "_law_heard" sp__law_heard := by
  obtain ⟨fd, F⟩ := c.def_ 17 (d := d__law_heard) rfl
  have S : FnScope n__law_heard p__law_heard (defScope s__law_heard) := ⟨rfl, rfl, rfl, by decide +kernel, rfl, by decide +kernel, by decide +kernel⟩
  refine def_av (k := 6) (cl := cl__law_heard) (hcs := []) (st := s__law_heard) ((wd X G c cx).mono (by decide)) (fun p hp => ?_) (fun p hp => ?_) (funD_fun F) (He.glo_ok X G (c.fact 17 (f := .glo "_law_heard") rfl)) (FunD.bindsN F fun _ _ _ _ _ _ us hl => match us, hl with | [_], _ => rfl) (by decide +kernel) (by decide +kernel) S c__law_heard (fun us G Q E h => ?_) w__law_heard
  · unfold cl__law_heard at hp
    simp only [List.mem_cons, List.mem_nil_iff, or_false] at hp
    rcases hp with rfl
    · exact (av_read_sound X G c cx).mono (by decide)
  · cases hp
  · first | (obtain ⟨rfl, _⟩ := h; rfl) | (obtain ⟨_, rfl, _⟩ := h; rfl) | (obtain ⟨_, _, rfl, _⟩ := h; rfl) | (obtain ⟨_, _, _, rfl, _⟩ := h; rfl) | (obtain ⟨_, _, _, _, rfl, _⟩ := h; rfl) | (obtain ⟨_, _, _, _, _, rfl, _⟩ := h; rfl) | (obtain ⟨_, _, _, _, _, _, rfl, _⟩ := h; rfl) | (obtain ⟨_, _, _, _, _, _, _, rfl, _⟩ := h; rfl) | (obtain ⟨_, _, _, _, _, _, _, _, rfl, _⟩ := h; rfl) | (obtain ⟨_, _, _, _, _, _, _, _, _, rfl, _⟩ := h; rfl) | (obtain ⟨_, _, _, _, _, _, _, _, _, _, rfl, _⟩ := h; rfl) | (obtain ⟨_, _, _, _, _, _, _, _, _, _, _, rfl, _⟩ := h; rfl) | (obtain ⟨_, _, _, _, _, _, _, _, _, _, _, _, rfl, _⟩ := h; rfl)
theorem av__law_refuses : Av P w K mg base xcs 8 "_law_refuses" sp__law_refuses := by
  obtain ⟨fd, F⟩ := c.def_ 19 (d := d__law_refuses) rfl
  have S : FnScope n__law_refuses p__law_refuses (defScope s__law_refuses) := ⟨rfl, rfl, rfl, by decide +kernel, rfl, by decide +kernel, by decide +kernel⟩
  refine def_av (k := 6) (cl := cl__law_refuses) (hcs := hc__law_refuses) (st := s__law_refuses) ((wd X G c cx).mono (by decide)) (fun p hp => ?_) (fun p hp => ?_) (funD_fun F) (He.glo_ok X G (c.fact 19 (f := .glo "_law_refuses") rfl)) (FunD.bindsN F fun _ _ _ _ _ _ us hl => match us, hl with | [_, _], _ => rfl) (by decide +kernel) (by decide +kernel) S c__law_refuses (fun us G Q E h => ?_) w__law_refuses
  · unfold cl__law_refuses at hp
    simp only [List.mem_cons, List.mem_nil_iff, or_false] at hp
    rcases hp with rfl | rfl
    · exact (av_show_sound X G c cx).mono (by decide)
    · exact (av_read_sound X G c cx).mono (by decide)
  · unfold hc__law_refuses at hp
    simp only [List.mem_cons, List.mem_nil_iff, or_false] at hp
    rcases hp with rfl
    · exact (avh__law_same X G c cx).mono (by decide)
  · first | (obtain ⟨rfl, _⟩ := h; rfl) | (obtain ⟨_, rfl, _⟩ := h; rfl) | (obtain ⟨_, _, rfl, _⟩ := h; rfl) | (obtain ⟨_, _, _, rfl, _⟩ := h; rfl) | (obtain ⟨_, _, _, _, rfl, _⟩ := h; rfl) | (obtain ⟨_, _, _, _, _, rfl, _⟩ := h; rfl) | (obtain ⟨_, _, _, _, _, _, rfl, _⟩ := h; rfl) | (obtain ⟨_, _, _, _, _, _, _, rfl, _⟩ := h; rfl) | (obtain ⟨_, _, _, _, _, _, _, _, rfl, _⟩ := h; rfl) | (obtain ⟨_, _, _, _, _, _, _, _, _, rfl, _⟩ := h; rfl) | (obtain ⟨_, _, _, _, _, _, _, _, _, _, rfl, _⟩ := h; rfl) | (obtain ⟨_, _, _, _, _, _, _, _, _, _, _, rfl, _⟩ := h; rfl) | (obtain ⟨_, _, _, _, _, _, _, _, _, _, _, _, rfl, _⟩ := h; rfl)
theorem av__law_right : Av P w K mg base xcs 9 "_law_right" sp__law_right := by
  obtain ⟨fd, F⟩ := c.def_ 18 (d := d__law_right) rfl
  have S : FnScope n__law_right p__law_right (defScope s__law_right) := ⟨rfl, rfl, rfl, by decide +kernel, rfl, by decide +kernel, by decide +kernel⟩
  refine def_av (k := 7) (cl := cl__law_right) (hcs := []) (st := s__law_right) ((wd X G c cx).mono (by decide)) (fun p hp => ?_) (fun p hp => ?_) (funD_fun F) (He.glo_ok X G (c.fact 18 (f := .glo "_law_right") rfl)) (FunD.bindsN F fun _ _ _ _ _ _ us hl => match us, hl with | [_], _ => rfl) (by decide +kernel) (by decide +kernel) S c__law_right (fun us G Q E h => ?_) w__law_right
  · unfold cl__law_right at hp
    simp only [List.mem_cons, List.mem_nil_iff, or_false] at hp
    rcases hp with rfl | rfl | rfl | rfl
    · exact (av__law_read_sound X G c cx).mono (by decide)
    · exact (av__law_heard X G c cx).mono (by decide)
    · exact (av__law_same X G c cx).mono (by decide)
    · exact (av_show_sound X G c cx).mono (by decide)
  · cases hp
  · first | (obtain ⟨rfl, _⟩ := h; rfl) | (obtain ⟨_, rfl, _⟩ := h; rfl) | (obtain ⟨_, _, rfl, _⟩ := h; rfl) | (obtain ⟨_, _, _, rfl, _⟩ := h; rfl) | (obtain ⟨_, _, _, _, rfl, _⟩ := h; rfl) | (obtain ⟨_, _, _, _, _, rfl, _⟩ := h; rfl) | (obtain ⟨_, _, _, _, _, _, rfl, _⟩ := h; rfl) | (obtain ⟨_, _, _, _, _, _, _, rfl, _⟩ := h; rfl) | (obtain ⟨_, _, _, _, _, _, _, _, rfl, _⟩ := h; rfl) | (obtain ⟨_, _, _, _, _, _, _, _, _, rfl, _⟩ := h; rfl) | (obtain ⟨_, _, _, _, _, _, _, _, _, _, rfl, _⟩ := h; rfl) | (obtain ⟨_, _, _, _, _, _, _, _, _, _, _, rfl, _⟩ := h; rfl) | (obtain ⟨_, _, _, _, _, _, _, _, _, _, _, _, rfl, _⟩ := h; rfl)
theorem av__law_unlike : Av P w K mg base xcs 10 "_law_unlike" sp__law_unlike := by
  obtain ⟨fd, F⟩ := c.def_ 21 (d := d__law_unlike) rfl
  have S : FnScope n__law_unlike p__law_unlike (defScope s__law_unlike) := ⟨rfl, rfl, rfl, by decide +kernel, rfl, by decide +kernel, by decide +kernel⟩
  refine def_av (k := 8) (cl := cl__law_unlike) (hcs := []) (st := s__law_unlike) ((wd X G c cx).mono (by decide)) (fun p hp => ?_) (fun p hp => ?_) (funD_fun F) (He.glo_ok X G (c.fact 21 (f := .glo "_law_unlike") rfl)) (FunD.bindsN F fun _ _ _ _ _ _ us hl => match us, hl with | [_, _, _], _ => rfl) (by decide +kernel) (by decide +kernel) S c__law_unlike (fun us G Q E h => ?_) w__law_unlike
  · unfold cl__law_unlike at hp
    simp only [List.mem_cons, List.mem_nil_iff, or_false] at hp
    rcases hp with rfl | rfl | rfl | rfl | rfl | rfl
    · exact (av__law_take X G c cx).mono (by decide)
    · exact (av__law_pick X G c cx).mono (by decide)
    · exact (av_show_sound X G c cx).mono (by decide)
    · exact (av__law_same X G c cx).mono (by decide)
    · exact (av__law_sound_text X G c cx).mono (by decide)
    · exact (av__law_right X G c cx).mono (by decide)
  · cases hp
  · first | (obtain ⟨rfl, _⟩ := h; rfl) | (obtain ⟨_, rfl, _⟩ := h; rfl) | (obtain ⟨_, _, rfl, _⟩ := h; rfl) | (obtain ⟨_, _, _, rfl, _⟩ := h; rfl) | (obtain ⟨_, _, _, _, rfl, _⟩ := h; rfl) | (obtain ⟨_, _, _, _, _, rfl, _⟩ := h; rfl) | (obtain ⟨_, _, _, _, _, _, rfl, _⟩ := h; rfl) | (obtain ⟨_, _, _, _, _, _, _, rfl, _⟩ := h; rfl) | (obtain ⟨_, _, _, _, _, _, _, _, rfl, _⟩ := h; rfl) | (obtain ⟨_, _, _, _, _, _, _, _, _, rfl, _⟩ := h; rfl) | (obtain ⟨_, _, _, _, _, _, _, _, _, _, rfl, _⟩ := h; rfl) | (obtain ⟨_, _, _, _, _, _, _, _, _, _, _, rfl, _⟩ := h; rfl) | (obtain ⟨_, _, _, _, _, _, _, _, _, _, _, _, rfl, _⟩ := h; rfl)
theorem ok_law {f : Addr} {fd : FuncData} (F : Fun K "law" "law" s_law f fd) : FnOk P w K mg base (L2N.CX P w) 11 f fd p_law (cSp K mg (xtab xcs) spLaw) := by
  have S : FnScope n_law p_law (defScope s_law) := ⟨rfl, rfl, rfl, by decide +kernel, rfl, by decide +kernel, by decide +kernel⟩
  refine def_ok (k := 9) (cl := cl_law) (hcs := []) (st := s_law) ((wd X G c cx).mono (by decide)) (fun p hp => ?_) (fun p hp => by cases hp) F S c_law (fun us G Q E h => ?_) w_law
  · unfold cl_law at hp
    simp only [List.mem_cons, List.mem_nil_iff, or_false] at hp
    rcases hp with rfl | rfl | rfl | rfl | rfl | rfl | rfl | rfl | rfl | rfl | rfl
    · exact (av__law_deck X G c cx).mono (by decide)
    · exact (av__law_sound X G c cx).mono (by decide)
    · exact (av__law_sound_text X G c cx).mono (by decide)
    · exact (av__law_same X G c cx).mono (by decide)
    · exact (av_read_sound X G c cx).mono (by decide)
    · exact (av_show_sound X G c cx).mono (by decide)
    · exact (av__law_right X G c cx).mono (by decide)
    · exact (av__law_bent_sound X G c cx).mono (by decide)
    · exact (av__law_unlike X G c cx).mono (by decide)
    · exact (av__law_pick X G c cx).mono (by decide)
    · exact (av__law_refuses X G c cx).mono (by decide)
  · first | (obtain ⟨rfl, _⟩ := h; rfl) | (obtain ⟨_, rfl, _⟩ := h; rfl) | (obtain ⟨_, _, rfl, _⟩ := h; rfl) | (obtain ⟨_, _, _, rfl, _⟩ := h; rfl) | (obtain ⟨_, _, _, _, rfl, _⟩ := h; rfl) | (obtain ⟨_, _, _, _, _, rfl, _⟩ := h; rfl) | (obtain ⟨_, _, _, _, _, _, rfl, _⟩ := h; rfl) | (obtain ⟨_, _, _, _, _, _, _, rfl, _⟩ := h; rfl) | (obtain ⟨_, _, _, _, _, _, _, _, rfl, _⟩ := h; rfl) | (obtain ⟨_, _, _, _, _, _, _, _, _, rfl, _⟩ := h; rfl) | (obtain ⟨_, _, _, _, _, _, _, _, _, _, rfl, _⟩ := h; rfl) | (obtain ⟨_, _, _, _, _, _, _, _, _, _, _, rfl, _⟩ := h; rfl) | (obtain ⟨_, _, _, _, _, _, _, _, _, _, _, _, rfl, _⟩ := h; rfl)
end
end K81
open PySem PySem.W PySem.Calls PyProof.Rows
theorem PySem.Challenge.cw_samesamples_k81_sounds_texts_holds : PySem.Challenge.rw_samesamples_k81_sounds_texts.Holds := by
  w_on; o_law
  refine HandSHeadRun.head_any (r := OpenLaw.row PySem.Challenge.rw_samesamples_k81_sounds_texts) (q := view (OpenLaw.row PySem.Challenge.rw_samesamples_k81_sounds_texts).prog [31]) (H := K81.hk) (ob := K81.ob) (M := 4000) (loose := K81.loose) (d := HandSHeadRun.topDef (OpenLaw.row PySem.Challenge.rw_samesamples_k81_sounds_texts).prog 31) (kwd := []) K81.ob_eq
    (by kernel_rfl) (fun s => by kernel_rfl) K81.run (by kernel_rfl) (by kernel_rfl) (by kernel_rfl) (by rfl) (by first | assumption | decide +kernel) (by decide +kernel) ⟨rfl, rfl, rfl, rfl, rfl, by decide +kernel⟩ ?hw ?hc
  case hw => w_witness2
  case hc =>
    refine L2.walk_ofE (l := PySem.Challenge.rw_samesamples_k81_sounds_texts) (n := 63) (k := 11) (x := "_law_script") (CX := UL.CXA (PySem.Challenge.rw_samesamples_k81_sounds_texts).prog) rfl (by decide) (by kernel_rfl) ⟨rfl, by decide, by decide⟩ ?F UL.cxa_end
    intro w mg fa h Y G hmg0
    obtain ⟨K, KX, c, cx⟩ := Y
    have hmg : mg ("law" : PySem.Str) = some (.ref fa) := by
      have e : (HandSHeadRun.topDef (OpenLaw.row PySem.Challenge.rw_samesamples_k81_sounds_texts).prog 31).name = ("law" : PySem.Str) := by kernel_rfl
      rw [← e]
      exact hmg0
    obtain ⟨fd, F⟩ := c.def_ 22 (d := K81.d_law) rfl
    have e := hmg.symm.trans (He.glo_ok KX G (c.fact 22 (f := .glo "law") rfl))
    cases e
    have b := L2.FunD.bindsA (ps := K81.p_law) F fun _ _ _ _ _ _ us hl => match us, hl with | [_], _ => rfl
    exact ⟨K, fd, UL.cSp K mg (UL.xtab K81.xcs) K81.spLaw, KX, fun s v => b s [v] rfl, fun H a ns hl hO hS => UL.sp_law hO hS ⟨ns, rfl, hl, fun _ => rfl⟩, fun base _ _ => UL.fn_cx (K81.ok_law KX G c cx (UL.funD_fun F)) fun _ _ _ _ _ _ z => ⟨_, z⟩⟩
