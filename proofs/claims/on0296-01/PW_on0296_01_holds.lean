import PyProof.Rows.All
import Wide.All
import OpenK.AllK
import Wide.FinOn
import Lean
import PySem.Challenge.RW_on0296_01
open PySem PySem.W PyProof.Rows
set_option Elab.async false
set_option compiler.extract_closed false
set_option maxRecDepth 100000
set_option linter.unusedVariables false
set_option linter.unusedSimpArgs false
namespace Mine


/-! ## abstract values, the abstract store, and how the heap bears them -/

inductive AVal where
  | none
  | bool (b : Bool)
  | int (i : Int)
  | str (s : Str)
  | tup (xs : List AVal)
  | lst (xs : List AVal)
  | dct (kvs : List (Int × AVal))
  | obj (C : Addr) (fs : List (Str × AVal))
  | rng (n : Nat)
  | ref (a : Addr)

inductive AObj where
  | list (xs : List AVal)
  | dict (kvs : List (Int × AVal))
  | inst (C dx : Addr) (fs : List (Str × AVal))
  | shadow (owner : Addr)

noncomputable abbrev AHeap := Addr → Option AObj

noncomputable def upd (H : AHeap) (a : Addr) (o : Option AObj) : AHeap := fun b => if b = a then o else H b

theorem upd_self (H : AHeap) (a : Addr) (o : Option AObj) : upd H a o a = o := by simp [upd]
theorem upd_ne (H : AHeap) {a b : Addr} (o : Option AObj) (h : b ≠ a) : upd H a o b = H b := by simp [upd, h]
theorem upd_upd (H : AHeap) (a : Addr) (o o' : Option AObj) : upd (upd H a o) a o' = upd H a o' := by
  funext b; by_cases h : b = a <;> simp [upd, h]
theorem upd_id (H : AHeap) (a : Addr) (o : Option AObj) (h : H a = o) : upd H a o = H := by
  funext b; by_cases hb : b = a
  · subst hb; simp [upd, h]
  · simp [upd, hb]

structure Base where
  prog : Program
  w : World
  h₀ : Heap
  K : Frag
  mg : Str → Option Value
  mb : Str → Option Value
  inK : K.In h₀
  glob : h₀.Ns mainGlobals mg
  blt : h₀.Ns builtinsNs mb
  bltv : ∀ x, x ≠ ("__name__" : Str) → mb x = bootBuiltins x
  lim : h₀.NoLimit

/-- what is held: by the store, or hidden -/
noncomputable def Held (H : AHeap) (X : Addr → Prop) (a : Addr) : Prop := H a ≠ none ∨ X a

section
variable (B : Base)

inductive VRel (D : Addr → Prop) (h : Heap) : AVal → Value → Prop where
  | none : VRel D h AVal.none Value.none
  | bool {b : Bool} : VRel D h (AVal.bool b) (Value.bool b)
  | int {i : Int} {t : Tok} : VRel D h (AVal.int i) (Value.int i t)
  | str {s : Str} {t : Tok} : VRel D h (AVal.str s) (Value.str s t)
  | tup {xs : List AVal} {vs : List Value} {a : Addr} {n : Nat} (ha : h.get? a = some { cls := Value.type "tuple", dict := Option.none, data := Data.seq vs.toArray n, slots := #[] }) (hi : ¬ D a)
      (hl : vs.length = xs.length) (hv : ∀ (i : Nat) (x : AVal) (v : Value), xs[i]? = some x → vs[i]? = some v → VRel D h x v) : VRel D h (AVal.tup xs) (Value.ref a)
  | lst {xs : List AVal} {vs : List Value} {a : Addr} {n : Nat} (ha : h.get? a = some { cls := Value.type "list", dict := Option.none, data := Data.seq vs.toArray n, slots := #[] }) (hi : ¬ D a)
      (hl : vs.length = xs.length) (hv : ∀ (i : Nat) (x : AVal) (v : Value), xs[i]? = some x → vs[i]? = some v → VRel D h x v) : VRel D h (AVal.lst xs) (Value.ref a)
  | dct {kvs : List (Int × AVal)} {kws : List (Int × Value)} {a : Addr} (ha : h.DictOf (intKind B.prog B.w) a kws) (hi : ¬ D a) (hs : (a == sysModules) = false)
      (hk : kws.map (·.1) = kvs.map (·.1)) (hv : ∀ (i : Nat) (k : Int) (x : AVal) (k' : Int) (v : Value), kvs[i]? = some (k, x) → kws[i]? = some (k', v) → VRel D h x v) : VRel D h (AVal.dct kvs) (Value.ref a)
  | obj {C dx : Addr} {fs : List (Str × AVal)} {es : List DictEntry} {a : Addr} {n : Nat} (ha : h.get? a = some (instObj C dx)) (hd : h.get? dx = some (dictOf es n)) (hi : ¬ D a) (hid : ¬ D dx)
      (hl : es.length = fs.length) (hn : ∀ (i : Nat) (x : Str) (v : AVal) (e : DictEntry), fs[i]? = some (x, v) → es[i]? = some e → ∃ t, e.key = Value.str x t)
      (hv : ∀ (i : Nat) (x : Str) (v : AVal) (e : DictEntry), fs[i]? = some (x, v) → es[i]? = some e → VRel D h v e.val) : VRel D h (AVal.obj C fs) (Value.ref a)
  | rng {n : Nat} {a : Addr} {t u v : Tok} (ha : IsRange h a 0 n 1 t u v) (hi : ¬ D a) : VRel D h (AVal.rng n) (Value.ref a)
  | ref {a : Addr} : VRel D h (AVal.ref a) (Value.ref a)

noncomputable def VRels (D : Addr → Prop) (h : Heap) (xs : List AVal) (vs : List Value) : Prop :=
  vs.length = xs.length ∧ ∀ (i : Nat) (x : AVal) (v : Value), xs[i]? = some x → vs[i]? = some v → VRel B D h x v
noncomputable def DRels (D : Addr → Prop) (h : Heap) (kvs : List (Int × AVal)) (kws : List (Int × Value)) : Prop :=
  kws.map (·.1) = kvs.map (·.1) ∧ ∀ (i : Nat) (k : Int) (x : AVal) (k' : Int) (v : Value), kvs[i]? = some (k, x) → kws[i]? = some (k', v) → VRel B D h x v
noncomputable def FRels (D : Addr → Prop) (h : Heap) (fs : List (Str × AVal)) (es : List DictEntry) : Prop :=
  es.length = fs.length ∧ (∀ (i : Nat) (x : Str) (v : AVal) (e : DictEntry), fs[i]? = some (x, v) → es[i]? = some e → ∃ t, e.key = Value.str x t) ∧
  ∀ (i : Nat) (x : Str) (v : AVal) (e : DictEntry), fs[i]? = some (x, v) → es[i]? = some e → VRel B D h v e.val

noncomputable def ORep (H : AHeap) (D : Addr → Prop) (h : Heap) (a : Addr) : AObj → Prop
  | .list xs => ∃ vs n, h.get? a = some { cls := Value.type "list", dict := Option.none, data := Data.seq (List.toArray vs) n, slots := #[] } ∧ VRels B D h xs vs
  | .dict kvs => ∃ kws, h.DictOf (intKind B.prog B.w) a kws ∧ (a == sysModules) = false ∧ DRels B D h kvs kws
  | .inst C dx fs => ∃ es n, h.get? a = some (instObj C dx) ∧ h.get? dx = some (dictOf es n) ∧ H dx = some (.shadow a) ∧ FRels B D h fs es
  | .shadow _ => ∃ o, h.get? a = some o

/-- what the store does not hold stays, and stays unheld -/
noncomputable def Kept (H : AHeap) (h : Heap) (H' : AHeap) (h' : Heap) : Prop := ∀ a o, h.get? a = some o → H a = none → h'.get? a = some o ∧ H' a = none

/-- what is not held at all stays, and stays unheld -/
noncomputable def KeptD (D : Addr → Prop) (h : Heap) (D' : Addr → Prop) (h' : Heap) : Prop := ∀ a o, h.get? a = some o → ¬ D a → h'.get? a = some o ∧ ¬ D' a

structure SRel (H : AHeap) (X : Addr → Prop) (h : Heap) : Prop where
  base : ∀ b o, B.h₀.get? b = some o → h.get? b = some o ∧ ¬ Held H X b
  hid : ∀ a, X a → H a = none ∧ ∃ o, h.get? a = some o
  objs : ∀ a o, H a = some o → ORep B H (Held H X) h a o

inductive SameS (s s' : Shared) : Prop
  | mk (h' : Heap) (tk : Nat) (e : s' = { s with heap := h', toks := tk }) : SameS s s'
noncomputable def Step (H : AHeap) (s : Shared) (H' : AHeap) (s' : Shared) : Prop := SameS s s' ∧ Kept H s.heap H' s'.heap
end

theorem Kept.refl (H : AHeap) (h : Heap) : Kept H h H h := fun _ _ e i => ⟨e, i⟩
theorem Kept.trans {H H' H'' : AHeap} {h h' h'' : Heap} (x : Kept H h H' h') (y : Kept H' h' H'' h'') : Kept H h H'' h'' :=
  fun a o e i => let ⟨e', i'⟩ := x a o e i; y a o e' i'
theorem Kept.held {H H' : AHeap} {X : Addr → Prop} {h h' : Heap} (k : Kept H h H' h') : KeptD (Held H X) h (Held H' X) h' := fun a o e i =>
  have hn : H a = none := by cases q : H a with | none => rfl | some _ => exact absurd (.inl (by simp [q])) i
  ⟨(k a o e hn).1, fun q => q.elim (fun z => z (k a o e hn).2) fun z => i (.inr z)⟩
theorem KeptD.refl (D : Addr → Prop) (h : Heap) : KeptD D h D h := fun _ _ e i => ⟨e, i⟩
theorem KeptD.trans {D D' D'' : Addr → Prop} {h h' h'' : Heap} (x : KeptD D h D' h') (y : KeptD D' h' D'' h'') : KeptD D h D'' h'' :=
  fun a o e i => let ⟨e', i'⟩ := x a o e i; y a o e' i'
theorem KeptD.weaken {D D' : Addr → Prop} {h : Heap} (hd : ∀ a, D' a → D a) : KeptD D h D' h := fun a _ e i => ⟨e, fun q => i (hd a q)⟩
theorem Held.none {H : AHeap} {X : Addr → Prop} {a : Addr} (h : ¬ Held H X a) : H a = Option.none := by
  cases q : H a with
  | none => rfl
  | some _ => exact absurd (.inl (by simp [q])) h
theorem Held.not {H : AHeap} {X : Addr → Prop} {a : Addr} (h : H a = Option.none) (x : ¬ X a) : ¬ Held H X a := fun q => q.elim (fun z => z h) x
theorem Step.refl (H : AHeap) (s : Shared) : Step H s H s := ⟨⟨s.heap, s.toks, rfl⟩, Kept.refl _ _⟩
theorem Step.trans {H H' H'' : AHeap} {s s' s'' : Shared} (x : Step H s H' s') (y : Step H' s' H'' s'') : Step H s H'' s'' := by
  obtain ⟨⟨h', tk, rfl⟩, k⟩ := x
  obtain ⟨⟨h'', tk', rfl⟩, k'⟩ := y
  exact ⟨⟨h'', tk', rfl⟩, k.trans k'⟩
theorem Step.toks (H : AHeap) (s : Shared) (n : Nat) : Step H s H { s with toks := n } := ⟨⟨s.heap, n, rfl⟩, Kept.refl _ _⟩

section
variable {B : Base} {H H' : AHeap} {X X' D D' : Addr → Prop} {h h' : Heap}

theorem DictOf.moved {K : Type} [DecidableEq K] {prog : Program} {w : World} {knd : PySem.KeyKind prog w K} {a : Addr} {kws : List (K × Value)} (x : h.DictOf knd a kws)
    (k : ∀ o, h.get? a = some o → h'.get? a = some o) : h'.DictOf knd a kws :=
  let ⟨o, es, ep, ho, r⟩ := x; ⟨o, es, ep, k o ho, r⟩
theorem DictOf.at_ {K : Type} [DecidableEq K] {prog : Program} {w : World} {knd : PySem.KeyKind prog w K} {a : Addr} {kws : List (K × Value)} (x : h.DictOf knd a kws) : ∃ o, h.get? a = some o :=
  let ⟨o, _, _, ho, _⟩ := x; ⟨o, ho⟩

theorem VRel.mono (k : KeptD D h D' h') {x : AVal} {v : Value} (r : VRel B D h x v) : VRel B D' h' x v := by
  induction r with
  | none => exact .none
  | bool => exact .bool
  | int => exact .int
  | str => exact .str
  | tup ha hi hl _ ih => exact .tup (k _ _ ha hi).1 (k _ _ ha hi).2 hl ih
  | lst ha hi hl _ ih => exact .lst (k _ _ ha hi).1 (k _ _ ha hi).2 hl ih
  | dct ha hi hs hk _ ih =>
    obtain ⟨o, ho⟩ := DictOf.at_ ha
    exact .dct (DictOf.moved ha fun o' e => (k _ _ e hi).1) (k _ _ ho hi).2 hs hk ih
  | obj ha hd hi hid hl hn _ ih => exact .obj (k _ _ ha hi).1 (k _ _ hd hid).1 (k _ _ ha hi).2 (k _ _ hd hid).2 hl hn ih
  | rng ha hi => exact .rng (k _ _ ha hi).1 (k _ _ ha hi).2
  | ref => exact .ref

theorem VRels.mono (k : KeptD D h D' h') {xs : List AVal} {vs : List Value} (r : VRels B D h xs vs) : VRels B D' h' xs vs := ⟨r.1, fun i x v a b => (r.2 i x v a b).mono k⟩
theorem DRels.mono (k : KeptD D h D' h') {xs : List (Int × AVal)} {vs : List (Int × Value)} (r : DRels B D h xs vs) : DRels B D' h' xs vs := ⟨r.1, fun i x v p q a b => (r.2 i x v p q a b).mono k⟩
theorem FRels.mono (k : KeptD D h D' h') {xs : List (Str × AVal)} {vs : List DictEntry} (r : FRels B D h xs vs) : FRels B D' h' xs vs := ⟨r.1, r.2.1, fun i x v p a b => (r.2.2 i x v p a b).mono k⟩

theorem VRels.nil : VRels B D h [] [] := ⟨rfl, fun i x v a _ => by simp at a⟩
theorem VRels.cons {x : AVal} {v : Value} {xs : List AVal} {vs : List Value} (r : VRel B D h x v) (rs : VRels B D h xs vs) : VRels B D h (x :: xs) (v :: vs) :=
  ⟨by simp [rs.1], fun i y u a b => by
    cases i with
    | zero => simp at a b; subst a b; exact r
    | succ i => exact rs.2 i y u (by simpa using a) (by simpa using b)⟩
theorem VRels.inv_nil {vs : List Value} (r : VRels B D h [] vs) : vs = [] := by simpa using r.1
theorem VRels.inv_cons {x : AVal} {xs : List AVal} {vs : List Value} (r : VRels B D h (x :: xs) vs) : ∃ v vs', vs = v :: vs' ∧ VRel B D h x v ∧ VRels B D h xs vs' := by
  cases vs with
  | nil => have := r.1; simp at this
  | cons v vs' => exact ⟨v, vs', rfl, r.2 0 x v rfl rfl, by have := r.1; simpa using this, fun i y u a b => r.2 (i + 1) y u (by simpa using a) (by simpa using b)⟩
theorem VRels.append {xs ys : List AVal} {vs us : List Value} (r : VRels B D h xs vs) (q : VRels B D h ys us) : VRels B D h (xs ++ ys) (vs ++ us) := by
  induction xs generalizing vs with
  | nil => rw [r.inv_nil]; exact q
  | cons x xs ih => obtain ⟨v, vs', rfl, a, b⟩ := r.inv_cons; exact VRels.cons a (ih b)
theorem VRels.get {xs : List AVal} {vs : List Value} (r : VRels B D h xs vs) {i : Nat} {x : AVal} (e : xs[i]? = some x) : ∃ v, vs[i]? = some v ∧ VRel B D h x v := by
  have hlt : i < vs.length := by rw [r.1]; exact (List.getElem?_eq_some_iff.mp e).1
  exact ⟨vs[i], by simp [hlt], r.2 i x _ e (by simp [hlt])⟩

/-! ### changes of heap and store that keep the relation -/

theorem get?_size (h : Heap) : h.get? h.objs.size = none := by
  cases q : h.get? h.objs.size with
  | none => rfl
  | some o => exact absurd (Heap.lt_size q) (Nat.lt_irrefl _)

theorem ORep.at_ {a : Addr} {ob : AObj} (r : ORep B H D h a ob) : ∃ o, h.get? a = some o := by
  cases ob with
  | list xs => obtain ⟨vs, n, e1, r⟩ := r; exact ⟨_, e1⟩
  | dict kvs => obtain ⟨kws, e1, e2, r⟩ := r; exact DictOf.at_ e1
  | inst C dx fs => obtain ⟨es, n, e1, e2, e3, r⟩ := r; exact ⟨_, e1⟩
  | shadow => exact r
theorem SRel.at_ (S : SRel B H X h) {a : Addr} (e : Held H X a) : ∃ o, h.get? a = some o := by
  rcases e with e | e
  · cases q : H a with
    | none => exact absurd q e
    | some ob => exact (S.objs a ob q).at_
  · exact (S.hid a e).2
theorem SRel.unheld (S : SRel B H X h) {a : Addr} (e : h.get? a = none) : ¬ Held H X a := fun q => by
  obtain ⟨o, ho⟩ := S.at_ q; rw [e] at ho; cases ho
theorem SRel.fresh (S : SRel B H X h) : ¬ Held H X h.objs.size := S.unheld (get?_size h)
theorem SRel.notBase (S : SRel B H X h) {a : Addr} (e : Held H X a) : B.h₀.get? a = none := by
  cases q : B.h₀.get? a with
  | none => rfl
  | some o => exact absurd e (S.base a o q).2

theorem ORep.moved {a : Addr} {ob : AObj} (r : ORep B H D h a ob) (k : KeptD D h D' h') (ha : ∀ o, h.get? a = some o → h'.get? a = some o)
    (hd : ∀ C dx fs, ob = .inst C dx fs → H dx = some (.shadow a) → H' dx = some (.shadow a) ∧ ∀ o, h.get? dx = some o → h'.get? dx = some o) : ORep B H' D' h' a ob := by
  cases ob with
  | list xs => obtain ⟨vs, n, e1, r⟩ := r; exact ⟨vs, n, ha _ e1, r.mono k⟩
  | dict kvs => obtain ⟨kws, e1, e2, r⟩ := r; exact ⟨kws, DictOf.moved e1 ha, e2, r.mono k⟩
  | inst C dx fs =>
    obtain ⟨es, n, e1, e2, e3, r⟩ := r
    obtain ⟨d1, d2⟩ := hd C dx fs rfl e3
    exact ⟨es, n, ha _ e1, d2 _ e2, d1, r.mono k⟩
  | shadow => obtain ⟨o', e1⟩ := r; exact ⟨o', ha _ e1⟩

/-- the heap grows or changes where nothing is held by the store, or at hidden places alone -/
theorem SRel.moved (S : SRel B H X h) (hk : ∀ a o, h.get? a = some o → ¬ X a → h'.get? a = some o) (hx : ∀ a, X a → ∃ o, h'.get? a = some o) : SRel B H X h' where
  base b o e := let ⟨e1, e2⟩ := S.base b o e; ⟨hk b o e1 fun q => e2 (.inr q), e2⟩
  hid a q := ⟨(S.hid a q).1, hx a q⟩
  objs a ob e := by
    have kd : KeptD (Held H X) h (Held H X) h' := fun b o q i => ⟨hk b o q fun z => i (.inr z), i⟩
    have nx : ∀ b, H b ≠ none → ¬ X b := fun b q z => q (S.hid b z).1
    refine (S.objs a ob e).moved kd (fun o q => hk a o q (nx a (by simp [e]))) fun C dx fs _ q => ⟨q, fun o z => hk dx o z (nx dx (by simp [q]))⟩

theorem SRel.push (S : SRel B H X h) (o : Obj) : SRel B H X (h.push o) :=
  S.moved (fun _ _ e _ => Heap.get?_push_of_some _ e) (fun a q => let ⟨_, o', e⟩ := S.hid a q; ⟨o', Heap.get?_push_of_some _ e⟩)
theorem Kept.push (o : Obj) : Kept H h H (h.push o) := fun _ _ e i => ⟨Heap.get?_push_of_some o e, i⟩
theorem Kept.grown (hk : ∀ a o, h.get? a = some o → h'.get? a = some o) : Kept H h H h' := fun _ _ e i => ⟨hk _ _ e, i⟩
theorem SRel.grown (S : SRel B H X h) (hk : ∀ a o, h.get? a = some o → h'.get? a = some o) : SRel B H X h' :=
  S.moved (fun _ _ e _ => hk _ _ e) (fun a q => let ⟨_, o', e⟩ := S.hid a q; ⟨o', hk _ _ e⟩)

/-- fewer things hidden -/
theorem SRel.show (S : SRel B H X h) (hx : ∀ a, X' a → X a) : SRel B H X' h := by
  have hd : ∀ a, Held H X' a → Held H X a := fun a q => q.imp id (hx a)
  exact ⟨fun b o e => ⟨(S.base b o e).1, fun q => (S.base b o e).2 (hd b q)⟩, fun a q => S.hid a (hx a q), fun a ob e =>
    (S.objs a ob e).moved (KeptD.weaken hd) (fun _ q => q) fun _ _ _ _ q => ⟨q, fun _ z => z⟩⟩

/-- a new object is hidden -/
theorem SRel.hide (S : SRel B H X h) (o : Obj) (hf : o.isFreed = false := by rfl) : SRel B H (fun a => X a ∨ a = h.objs.size) (h.push o) := by
  have kd : KeptD (Held H X) h (Held H fun a => X a ∨ a = h.objs.size) (h.push o) := fun b o' e i =>
    ⟨Heap.get?_push_of_some _ e, fun q => q.elim (fun z => i (.inl z)) fun z => z.elim (fun z => i (.inr z)) fun z => Nat.ne_of_lt (Heap.lt_size e) z⟩
  refine ⟨fun b o' e => ?_, fun a q => ?_, fun a ob e => ?_⟩
  · obtain ⟨e1, e2⟩ := S.base b o' e; exact kd b o' e1 e2
  · rcases q with q | rfl
    · obtain ⟨h1, o', e⟩ := S.hid a q; exact ⟨h1, o', Heap.get?_push_of_some _ e⟩
    · exact ⟨Held.none S.fresh, o, Heap.get?_push_size _ hf⟩
  · exact (S.objs a ob e).moved kd (fun _ q => Heap.get?_push_of_some _ q) fun _ _ _ _ q => ⟨q, fun _ z => Heap.get?_push_of_some _ z⟩

/-- the store takes up a hidden place -/
theorem SRel.take (S : SRel B H X h) {a : Addr} {ob : AObj} (ha : X a) (hx : ∀ b, X' b ↔ X b ∧ b ≠ a)
    (hr : ORep B (upd H a (some ob)) (Held H X) h a ob) : SRel B (upd H a (some ob)) X' h := by
  have hH := (S.hid a ha).1
  have hd : ∀ b, Held (upd H a (some ob)) X' b ↔ Held H X b := fun b => by
    unfold Held
    by_cases hb : b = a
    · subst hb; simp [upd_self, ha]
    · simp [upd_ne _ _ hb, hx b, hb]
  have hdd : Held (upd H a (some ob)) X' = Held H X := funext fun b => propext (hd b)
  refine ⟨fun b o e => ⟨(S.base b o e).1, by rw [hdd]; exact (S.base b o e).2⟩, fun b q => ?_, fun b o e => ?_⟩
  · obtain ⟨q1, q2⟩ := (hx b).mp q
    rw [upd_ne _ _ q2]; exact S.hid b q1
  · rw [hdd]
    by_cases hb : b = a
    · subst hb; rw [upd_self] at e; cases e; exact hr
    · rw [upd_ne _ _ hb] at e
      refine (S.objs b o e).moved (KeptD.refl _ _) (fun _ q => q) fun C dx fs _ q => ⟨?_, fun _ z => z⟩
      have hdx : dx ≠ a := fun z => by rw [z, hH] at q; cases q
      rw [upd_ne _ _ hdx]; exact q

/-- the store lets an object go for good: it is frozen -/
theorem SRel.drop (S : SRel B H X h) {a : Addr} (hsh : ∀ x dx C fs, H x = some (.inst C dx fs) → dx = a → x = a) : SRel B (upd H a none) X h := by
  have hd : ∀ b, Held (upd H a none) X b → Held H X b := fun b q => q.imp (fun z => by
    by_cases hb : b = a
    · subst hb; rw [upd_self] at z; exact absurd rfl z
    · rw [upd_ne _ _ hb] at z; exact z) id
  refine ⟨fun b o e => ⟨(S.base b o e).1, fun q => (S.base b o e).2 (hd b q)⟩, fun b q => ?_, fun b o e => ?_⟩
  · obtain ⟨q1, q2⟩ := S.hid b q
    refine ⟨?_, q2⟩
    by_cases hb : b = a
    · subst hb; exact upd_self ..
    · rw [upd_ne _ _ hb]; exact q1
  · by_cases hb : b = a
    · subst hb; rw [upd_self] at e; cases e
    · rw [upd_ne _ _ hb] at e
      refine (S.objs b o e).moved (KeptD.weaken hd) (fun _ q => q) fun C dx fs z q => ⟨?_, fun _ z => z⟩
      subst z
      have hdx : dx ≠ a := fun z => hb (hsh b dx C fs e z)
      rw [upd_ne _ _ hdx]; exact q

/-- the store's object at `a` takes another content; the heap changes at `c` alone: `a` itself, or its shadow -/
theorem SRel.put (S : SRel B H X h) {a c : Addr} {ob ob' : AObj} (e : H a = some ob) (hns : ∀ x, ob ≠ .shadow x) (hc : c = a ∨ H c = some (.shadow a)) (hs : Heap.SameBut c h h')
    (hh : ∀ o, h.get? c = some o → ∃ o', h'.get? c = some o')
    (hr : KeptD (Held H X) h (Held H X) h' → ORep B (upd H a (some ob')) (Held H X) h' a ob') : SRel B (upd H a (some ob')) X h' ∧ Kept H h (upd H a (some ob')) h' := by
  have hcn : H c ≠ none := by rcases hc with rfl | q <;> simp [*]
  have hdd : Held (upd H a (some ob')) X = Held H X := funext fun b => propext (by
    unfold Held
    by_cases hb : b = a
    · subst hb; simp [upd_self, e]
    · simp [upd_ne _ _ hb])
  have k : Kept H h (upd H a (some ob')) h' := fun b o eb ib => by
    have hb : b ≠ a := fun q => by rw [q, e] at ib; cases ib
    have hbc : b ≠ c := fun q => hcn (q ▸ ib)
    exact ⟨(hs.2 b hbc).trans eb, by rw [upd_ne _ _ hb]; exact ib⟩
  have kd : KeptD (Held H X) h (Held H X) h' := by have := k.held (X := X); rwa [hdd] at this
  have Xc : ¬ X c := fun q => hcn (S.hid c q).1
  refine ⟨⟨fun b o eb => ?_, fun b q => ?_, fun b o eb => ?_⟩, k⟩
  · obtain ⟨e1, e2⟩ := S.base b o eb
    rw [hdd]; exact kd b o e1 e2
  · obtain ⟨q1, o, q2⟩ := S.hid b q
    have hb : b ≠ a := fun z => by rw [z, e] at q1; cases q1
    have hbc : b ≠ c := fun z => Xc (z ▸ q)
    exact ⟨by rw [upd_ne _ _ hb]; exact q1, o, (hs.2 b hbc).trans q2⟩
  · rw [hdd]
    by_cases hb : b = a
    · subst hb; rw [upd_self] at eb; cases eb; exact hr kd
    · rw [upd_ne _ _ hb] at eb
      have R := S.objs b o eb
      have hda : ∀ y, H a = some (.shadow y) → False := fun y q => by rw [e] at q; exact hns y (Option.some.inj q)
      by_cases hbc : b = c
      · subst hbc
        rcases hc with rfl | q
        · exact absurd rfl hb
        · rw [q] at eb; cases eb; obtain ⟨o', ho'⟩ := R; exact hh o' ho'
      · refine R.moved kd (fun o' q => (hs.2 b hbc).trans q) fun C dx fs q z => ⟨?_, fun o' z' => (hs.2 dx ?_).trans z'⟩
        · rw [upd_ne _ _ (fun q : dx = a => hda b (by rw [← q]; exact z))]; exact z
        · rintro rfl
          rcases hc with rfl | q'
          · exact hda b z
          · rw [z] at q'; cases q'; exact hb rfl

end

/-! ## the judgements -/

noncomputable abbrev Fa : Value → Shared → Prop := fun _ _ => False

noncomputable def Room (d : Nat) (A : Around) : Prop := A.handled = none ∧ A.depth + 10 * d ≤ 900 ∧ A.units + 30 * d ≤ 9000
theorem Room.handled {d : Nat} {A : Around} (r : Room d A) : A.handled = none := r.1
theorem Room.units {d : Nat} {A : Around} (r : Room d A) : A.units < cLine := by have := r.2.2; have := cLine_is; lia

inductive Ok (B : Base) (H : AHeap) (X : Addr → Prop) (s : Shared) (Q : AVal → AHeap → Prop) (v : Value) (s' : Shared) : Prop
  | mk (x : AVal) (H' : AHeap) (r : VRel B (Held H' X) s'.heap x v) (S : SRel B H' X s'.heap) (t : Step H s H' s') (q : Q x H') : Ok B H X s Q v s'
inductive OkU (B : Base) (H : AHeap) (X : Addr → Prop) (s : Shared) (Q : AHeap → Prop) (s' : Shared) : Prop
  | mk (H' : AHeap) (S : SRel B H' X s'.heap) (t : Step H s H' s') (q : Q H') : OkU B H X s Q s'
inductive OkB (B : Base) (H : AHeap) (X : Addr → Prop) (s : Shared) (Q : Bool → AHeap → Prop) (b : Bool) (s' : Shared) : Prop
  | mk (H' : AHeap) (S : SRel B H' X s'.heap) (t : Step H s H' s') (q : Q b H') : OkB B H X s Q b s'
inductive OkL (B : Base) (H : AHeap) (X : Addr → Prop) (s : Shared) (Q : List AVal → AHeap → Prop) (vs : List Value) (s' : Shared) : Prop
  | mk (xs : List AVal) (H' : AHeap) (r : VRels B (Held H' X) s'.heap xs vs) (S : SRel B H' X s'.heap) (t : Step H s H' s') (q : Q xs H') : OkL B H X s Q vs s'
/-- a value that is a truth value, in a store -/
inductive BoolQ (Q : Bool → AHeap → Prop) (c : AVal) (H : AHeap) : Prop
  | mk (b : Bool) (e : c = .bool b) (q : Q b H) : BoolQ Q c H

noncomputable abbrev Loc := List (Str × AVal)
noncomputable def lget : Loc → Str → Option AVal
  | [], _ => none
  | (y, u) :: r, x => if x = y then some u else lget r x
noncomputable def lset : Loc → Str → AVal → Loc
  | [], x, v => [(x, v)]
  | (y, u) :: r, x, v => if x = y then (y, v) :: r else (y, u) :: lset r x v
theorem lget_hd {ρ : Loc} {x : Str} {v : AVal} : lget ((x, v) :: ρ) x = some v := by simp [lget]
theorem lget_tl {ρ : Loc} {x y : Str} {v u : AVal} (h : x ≠ y) (e : lget ρ x = some v) : lget ((y, u) :: ρ) x = some v := by simp [lget, h, e]
theorem lset_hd {ρ : Loc} {x : Str} {v u : AVal} : lset ((x, u) :: ρ) x v = (x, v) :: ρ := by simp [lset]
theorem lset_tl {ρ ρ' : Loc} {x y : Str} {v u : AVal} (h : x ≠ y) (e : lset ρ x v = ρ') : lset ((y, u) :: ρ) x v = (y, u) :: ρ' := by simp [lset, h, e]
theorem lset_nil {x : Str} {v : AVal} : lset [] x v = [(x, v)] := rfl
theorem lget1 {ρ : Loc} {x y1 : Str} {v u1 : AVal} (h1 : x ≠ y1) : lget ((y1, u1) :: (x, v) :: ρ) x = some v := lget_tl h1 (lget_hd)
theorem lset1 {ρ : Loc} {x y1 : Str} {v u u1 : AVal} (h1 : x ≠ y1) : lset ((y1, u1) :: (x, u) :: ρ) x v = (y1, u1) :: (x, v) :: ρ := lset_tl h1 (lset_hd)
theorem lput1 {x y1 : Str} {v u1 : AVal} (h1 : x ≠ y1) : lset [(y1, u1)] x v = [(y1, u1), (x, v)] := lset_tl h1 (lset_nil)
theorem lget2 {ρ : Loc} {x y1 y2 : Str} {v u1 u2 : AVal} (h1 : x ≠ y1) (h2 : x ≠ y2) : lget ((y1, u1) :: (y2, u2) :: (x, v) :: ρ) x = some v := lget_tl h1 (lget_tl h2 (lget_hd))
theorem lset2 {ρ : Loc} {x y1 y2 : Str} {v u u1 u2 : AVal} (h1 : x ≠ y1) (h2 : x ≠ y2) : lset ((y1, u1) :: (y2, u2) :: (x, u) :: ρ) x v = (y1, u1) :: (y2, u2) :: (x, v) :: ρ := lset_tl h1 (lset_tl h2 (lset_hd))
theorem lput2 {x y1 y2 : Str} {v u1 u2 : AVal} (h1 : x ≠ y1) (h2 : x ≠ y2) : lset [(y1, u1), (y2, u2)] x v = [(y1, u1), (y2, u2), (x, v)] := lset_tl h1 (lset_tl h2 (lset_nil))
theorem lget3 {ρ : Loc} {x y1 y2 y3 : Str} {v u1 u2 u3 : AVal} (h1 : x ≠ y1) (h2 : x ≠ y2) (h3 : x ≠ y3) : lget ((y1, u1) :: (y2, u2) :: (y3, u3) :: (x, v) :: ρ) x = some v := lget_tl h1 (lget_tl h2 (lget_tl h3 (lget_hd)))
theorem lset3 {ρ : Loc} {x y1 y2 y3 : Str} {v u u1 u2 u3 : AVal} (h1 : x ≠ y1) (h2 : x ≠ y2) (h3 : x ≠ y3) : lset ((y1, u1) :: (y2, u2) :: (y3, u3) :: (x, u) :: ρ) x v = (y1, u1) :: (y2, u2) :: (y3, u3) :: (x, v) :: ρ := lset_tl h1 (lset_tl h2 (lset_tl h3 (lset_hd)))
theorem lput3 {x y1 y2 y3 : Str} {v u1 u2 u3 : AVal} (h1 : x ≠ y1) (h2 : x ≠ y2) (h3 : x ≠ y3) : lset [(y1, u1), (y2, u2), (y3, u3)] x v = [(y1, u1), (y2, u2), (y3, u3), (x, v)] := lset_tl h1 (lset_tl h2 (lset_tl h3 (lset_nil)))
theorem lget4 {ρ : Loc} {x y1 y2 y3 y4 : Str} {v u1 u2 u3 u4 : AVal} (h1 : x ≠ y1) (h2 : x ≠ y2) (h3 : x ≠ y3) (h4 : x ≠ y4) : lget ((y1, u1) :: (y2, u2) :: (y3, u3) :: (y4, u4) :: (x, v) :: ρ) x = some v := lget_tl h1 (lget_tl h2 (lget_tl h3 (lget_tl h4 (lget_hd))))
theorem lset4 {ρ : Loc} {x y1 y2 y3 y4 : Str} {v u u1 u2 u3 u4 : AVal} (h1 : x ≠ y1) (h2 : x ≠ y2) (h3 : x ≠ y3) (h4 : x ≠ y4) : lset ((y1, u1) :: (y2, u2) :: (y3, u3) :: (y4, u4) :: (x, u) :: ρ) x v = (y1, u1) :: (y2, u2) :: (y3, u3) :: (y4, u4) :: (x, v) :: ρ := lset_tl h1 (lset_tl h2 (lset_tl h3 (lset_tl h4 (lset_hd))))
theorem lput4 {x y1 y2 y3 y4 : Str} {v u1 u2 u3 u4 : AVal} (h1 : x ≠ y1) (h2 : x ≠ y2) (h3 : x ≠ y3) (h4 : x ≠ y4) : lset [(y1, u1), (y2, u2), (y3, u3), (y4, u4)] x v = [(y1, u1), (y2, u2), (y3, u3), (y4, u4), (x, v)] := lset_tl h1 (lset_tl h2 (lset_tl h3 (lset_tl h4 (lset_nil))))
theorem lget5 {ρ : Loc} {x y1 y2 y3 y4 y5 : Str} {v u1 u2 u3 u4 u5 : AVal} (h1 : x ≠ y1) (h2 : x ≠ y2) (h3 : x ≠ y3) (h4 : x ≠ y4) (h5 : x ≠ y5) : lget ((y1, u1) :: (y2, u2) :: (y3, u3) :: (y4, u4) :: (y5, u5) :: (x, v) :: ρ) x = some v := lget_tl h1 (lget_tl h2 (lget_tl h3 (lget_tl h4 (lget_tl h5 (lget_hd)))))
theorem lset5 {ρ : Loc} {x y1 y2 y3 y4 y5 : Str} {v u u1 u2 u3 u4 u5 : AVal} (h1 : x ≠ y1) (h2 : x ≠ y2) (h3 : x ≠ y3) (h4 : x ≠ y4) (h5 : x ≠ y5) : lset ((y1, u1) :: (y2, u2) :: (y3, u3) :: (y4, u4) :: (y5, u5) :: (x, u) :: ρ) x v = (y1, u1) :: (y2, u2) :: (y3, u3) :: (y4, u4) :: (y5, u5) :: (x, v) :: ρ := lset_tl h1 (lset_tl h2 (lset_tl h3 (lset_tl h4 (lset_tl h5 (lset_hd)))))
theorem lput5 {x y1 y2 y3 y4 y5 : Str} {v u1 u2 u3 u4 u5 : AVal} (h1 : x ≠ y1) (h2 : x ≠ y2) (h3 : x ≠ y3) (h4 : x ≠ y4) (h5 : x ≠ y5) : lset [(y1, u1), (y2, u2), (y3, u3), (y4, u4), (y5, u5)] x v = [(y1, u1), (y2, u2), (y3, u3), (y4, u4), (y5, u5), (x, v)] := lset_tl h1 (lset_tl h2 (lset_tl h3 (lset_tl h4 (lset_tl h5 (lset_nil)))))
theorem lget6 {ρ : Loc} {x y1 y2 y3 y4 y5 y6 : Str} {v u1 u2 u3 u4 u5 u6 : AVal} (h1 : x ≠ y1) (h2 : x ≠ y2) (h3 : x ≠ y3) (h4 : x ≠ y4) (h5 : x ≠ y5) (h6 : x ≠ y6) : lget ((y1, u1) :: (y2, u2) :: (y3, u3) :: (y4, u4) :: (y5, u5) :: (y6, u6) :: (x, v) :: ρ) x = some v := lget_tl h1 (lget_tl h2 (lget_tl h3 (lget_tl h4 (lget_tl h5 (lget_tl h6 (lget_hd))))))
theorem lset6 {ρ : Loc} {x y1 y2 y3 y4 y5 y6 : Str} {v u u1 u2 u3 u4 u5 u6 : AVal} (h1 : x ≠ y1) (h2 : x ≠ y2) (h3 : x ≠ y3) (h4 : x ≠ y4) (h5 : x ≠ y5) (h6 : x ≠ y6) : lset ((y1, u1) :: (y2, u2) :: (y3, u3) :: (y4, u4) :: (y5, u5) :: (y6, u6) :: (x, u) :: ρ) x v = (y1, u1) :: (y2, u2) :: (y3, u3) :: (y4, u4) :: (y5, u5) :: (y6, u6) :: (x, v) :: ρ := lset_tl h1 (lset_tl h2 (lset_tl h3 (lset_tl h4 (lset_tl h5 (lset_tl h6 (lset_hd))))))
theorem lput6 {x y1 y2 y3 y4 y5 y6 : Str} {v u1 u2 u3 u4 u5 u6 : AVal} (h1 : x ≠ y1) (h2 : x ≠ y2) (h3 : x ≠ y3) (h4 : x ≠ y4) (h5 : x ≠ y5) (h6 : x ≠ y6) : lset [(y1, u1), (y2, u2), (y3, u3), (y4, u4), (y5, u5), (y6, u6)] x v = [(y1, u1), (y2, u2), (y3, u3), (y4, u4), (y5, u5), (y6, u6), (x, v)] := lset_tl h1 (lset_tl h2 (lset_tl h3 (lset_tl h4 (lset_tl h5 (lset_tl h6 (lset_nil))))))
theorem lget7 {ρ : Loc} {x y1 y2 y3 y4 y5 y6 y7 : Str} {v u1 u2 u3 u4 u5 u6 u7 : AVal} (h1 : x ≠ y1) (h2 : x ≠ y2) (h3 : x ≠ y3) (h4 : x ≠ y4) (h5 : x ≠ y5) (h6 : x ≠ y6) (h7 : x ≠ y7) : lget ((y1, u1) :: (y2, u2) :: (y3, u3) :: (y4, u4) :: (y5, u5) :: (y6, u6) :: (y7, u7) :: (x, v) :: ρ) x = some v := lget_tl h1 (lget_tl h2 (lget_tl h3 (lget_tl h4 (lget_tl h5 (lget_tl h6 (lget_tl h7 (lget_hd)))))))
theorem lset7 {ρ : Loc} {x y1 y2 y3 y4 y5 y6 y7 : Str} {v u u1 u2 u3 u4 u5 u6 u7 : AVal} (h1 : x ≠ y1) (h2 : x ≠ y2) (h3 : x ≠ y3) (h4 : x ≠ y4) (h5 : x ≠ y5) (h6 : x ≠ y6) (h7 : x ≠ y7) : lset ((y1, u1) :: (y2, u2) :: (y3, u3) :: (y4, u4) :: (y5, u5) :: (y6, u6) :: (y7, u7) :: (x, u) :: ρ) x v = (y1, u1) :: (y2, u2) :: (y3, u3) :: (y4, u4) :: (y5, u5) :: (y6, u6) :: (y7, u7) :: (x, v) :: ρ := lset_tl h1 (lset_tl h2 (lset_tl h3 (lset_tl h4 (lset_tl h5 (lset_tl h6 (lset_tl h7 (lset_hd)))))))
theorem lput7 {x y1 y2 y3 y4 y5 y6 y7 : Str} {v u1 u2 u3 u4 u5 u6 u7 : AVal} (h1 : x ≠ y1) (h2 : x ≠ y2) (h3 : x ≠ y3) (h4 : x ≠ y4) (h5 : x ≠ y5) (h6 : x ≠ y6) (h7 : x ≠ y7) : lset [(y1, u1), (y2, u2), (y3, u3), (y4, u4), (y5, u5), (y6, u6), (y7, u7)] x v = [(y1, u1), (y2, u2), (y3, u3), (y4, u4), (y5, u5), (y6, u6), (y7, u7), (x, v)] := lset_tl h1 (lset_tl h2 (lset_tl h3 (lset_tl h4 (lset_tl h5 (lset_tl h6 (lset_tl h7 (lset_nil)))))))
theorem lget8 {ρ : Loc} {x y1 y2 y3 y4 y5 y6 y7 y8 : Str} {v u1 u2 u3 u4 u5 u6 u7 u8 : AVal} (h1 : x ≠ y1) (h2 : x ≠ y2) (h3 : x ≠ y3) (h4 : x ≠ y4) (h5 : x ≠ y5) (h6 : x ≠ y6) (h7 : x ≠ y7) (h8 : x ≠ y8) : lget ((y1, u1) :: (y2, u2) :: (y3, u3) :: (y4, u4) :: (y5, u5) :: (y6, u6) :: (y7, u7) :: (y8, u8) :: (x, v) :: ρ) x = some v := lget_tl h1 (lget_tl h2 (lget_tl h3 (lget_tl h4 (lget_tl h5 (lget_tl h6 (lget_tl h7 (lget_tl h8 (lget_hd))))))))
theorem lset8 {ρ : Loc} {x y1 y2 y3 y4 y5 y6 y7 y8 : Str} {v u u1 u2 u3 u4 u5 u6 u7 u8 : AVal} (h1 : x ≠ y1) (h2 : x ≠ y2) (h3 : x ≠ y3) (h4 : x ≠ y4) (h5 : x ≠ y5) (h6 : x ≠ y6) (h7 : x ≠ y7) (h8 : x ≠ y8) : lset ((y1, u1) :: (y2, u2) :: (y3, u3) :: (y4, u4) :: (y5, u5) :: (y6, u6) :: (y7, u7) :: (y8, u8) :: (x, u) :: ρ) x v = (y1, u1) :: (y2, u2) :: (y3, u3) :: (y4, u4) :: (y5, u5) :: (y6, u6) :: (y7, u7) :: (y8, u8) :: (x, v) :: ρ := lset_tl h1 (lset_tl h2 (lset_tl h3 (lset_tl h4 (lset_tl h5 (lset_tl h6 (lset_tl h7 (lset_tl h8 (lset_hd))))))))
theorem lput8 {x y1 y2 y3 y4 y5 y6 y7 y8 : Str} {v u1 u2 u3 u4 u5 u6 u7 u8 : AVal} (h1 : x ≠ y1) (h2 : x ≠ y2) (h3 : x ≠ y3) (h4 : x ≠ y4) (h5 : x ≠ y5) (h6 : x ≠ y6) (h7 : x ≠ y7) (h8 : x ≠ y8) : lset [(y1, u1), (y2, u2), (y3, u3), (y4, u4), (y5, u5), (y6, u6), (y7, u7), (y8, u8)] x v = [(y1, u1), (y2, u2), (y3, u3), (y4, u4), (y5, u5), (y6, u6), (y7, u7), (y8, u8), (x, v)] := lset_tl h1 (lset_tl h2 (lset_tl h3 (lset_tl h4 (lset_tl h5 (lset_tl h6 (lset_tl h7 (lset_tl h8 (lset_nil))))))))
theorem lget9 {ρ : Loc} {x y1 y2 y3 y4 y5 y6 y7 y8 y9 : Str} {v u1 u2 u3 u4 u5 u6 u7 u8 u9 : AVal} (h1 : x ≠ y1) (h2 : x ≠ y2) (h3 : x ≠ y3) (h4 : x ≠ y4) (h5 : x ≠ y5) (h6 : x ≠ y6) (h7 : x ≠ y7) (h8 : x ≠ y8) (h9 : x ≠ y9) : lget ((y1, u1) :: (y2, u2) :: (y3, u3) :: (y4, u4) :: (y5, u5) :: (y6, u6) :: (y7, u7) :: (y8, u8) :: (y9, u9) :: (x, v) :: ρ) x = some v := lget_tl h1 (lget_tl h2 (lget_tl h3 (lget_tl h4 (lget_tl h5 (lget_tl h6 (lget_tl h7 (lget_tl h8 (lget_tl h9 (lget_hd)))))))))
theorem lset9 {ρ : Loc} {x y1 y2 y3 y4 y5 y6 y7 y8 y9 : Str} {v u u1 u2 u3 u4 u5 u6 u7 u8 u9 : AVal} (h1 : x ≠ y1) (h2 : x ≠ y2) (h3 : x ≠ y3) (h4 : x ≠ y4) (h5 : x ≠ y5) (h6 : x ≠ y6) (h7 : x ≠ y7) (h8 : x ≠ y8) (h9 : x ≠ y9) : lset ((y1, u1) :: (y2, u2) :: (y3, u3) :: (y4, u4) :: (y5, u5) :: (y6, u6) :: (y7, u7) :: (y8, u8) :: (y9, u9) :: (x, u) :: ρ) x v = (y1, u1) :: (y2, u2) :: (y3, u3) :: (y4, u4) :: (y5, u5) :: (y6, u6) :: (y7, u7) :: (y8, u8) :: (y9, u9) :: (x, v) :: ρ := lset_tl h1 (lset_tl h2 (lset_tl h3 (lset_tl h4 (lset_tl h5 (lset_tl h6 (lset_tl h7 (lset_tl h8 (lset_tl h9 (lset_hd)))))))))
theorem lput9 {x y1 y2 y3 y4 y5 y6 y7 y8 y9 : Str} {v u1 u2 u3 u4 u5 u6 u7 u8 u9 : AVal} (h1 : x ≠ y1) (h2 : x ≠ y2) (h3 : x ≠ y3) (h4 : x ≠ y4) (h5 : x ≠ y5) (h6 : x ≠ y6) (h7 : x ≠ y7) (h8 : x ≠ y8) (h9 : x ≠ y9) : lset [(y1, u1), (y2, u2), (y3, u3), (y4, u4), (y5, u5), (y6, u6), (y7, u7), (y8, u8), (y9, u9)] x v = [(y1, u1), (y2, u2), (y3, u3), (y4, u4), (y5, u5), (y6, u6), (y7, u7), (y8, u8), (y9, u9), (x, v)] := lset_tl h1 (lset_tl h2 (lset_tl h3 (lset_tl h4 (lset_tl h5 (lset_tl h6 (lset_tl h7 (lset_tl h8 (lset_tl h9 (lset_nil)))))))))
theorem lget10 {ρ : Loc} {x y1 y2 y3 y4 y5 y6 y7 y8 y9 y10 : Str} {v u1 u2 u3 u4 u5 u6 u7 u8 u9 u10 : AVal} (h1 : x ≠ y1) (h2 : x ≠ y2) (h3 : x ≠ y3) (h4 : x ≠ y4) (h5 : x ≠ y5) (h6 : x ≠ y6) (h7 : x ≠ y7) (h8 : x ≠ y8) (h9 : x ≠ y9) (h10 : x ≠ y10) : lget ((y1, u1) :: (y2, u2) :: (y3, u3) :: (y4, u4) :: (y5, u5) :: (y6, u6) :: (y7, u7) :: (y8, u8) :: (y9, u9) :: (y10, u10) :: (x, v) :: ρ) x = some v := lget_tl h1 (lget_tl h2 (lget_tl h3 (lget_tl h4 (lget_tl h5 (lget_tl h6 (lget_tl h7 (lget_tl h8 (lget_tl h9 (lget_tl h10 (lget_hd))))))))))
theorem lset10 {ρ : Loc} {x y1 y2 y3 y4 y5 y6 y7 y8 y9 y10 : Str} {v u u1 u2 u3 u4 u5 u6 u7 u8 u9 u10 : AVal} (h1 : x ≠ y1) (h2 : x ≠ y2) (h3 : x ≠ y3) (h4 : x ≠ y4) (h5 : x ≠ y5) (h6 : x ≠ y6) (h7 : x ≠ y7) (h8 : x ≠ y8) (h9 : x ≠ y9) (h10 : x ≠ y10) : lset ((y1, u1) :: (y2, u2) :: (y3, u3) :: (y4, u4) :: (y5, u5) :: (y6, u6) :: (y7, u7) :: (y8, u8) :: (y9, u9) :: (y10, u10) :: (x, u) :: ρ) x v = (y1, u1) :: (y2, u2) :: (y3, u3) :: (y4, u4) :: (y5, u5) :: (y6, u6) :: (y7, u7) :: (y8, u8) :: (y9, u9) :: (y10, u10) :: (x, v) :: ρ := lset_tl h1 (lset_tl h2 (lset_tl h3 (lset_tl h4 (lset_tl h5 (lset_tl h6 (lset_tl h7 (lset_tl h8 (lset_tl h9 (lset_tl h10 (lset_hd))))))))))
theorem lput10 {x y1 y2 y3 y4 y5 y6 y7 y8 y9 y10 : Str} {v u1 u2 u3 u4 u5 u6 u7 u8 u9 u10 : AVal} (h1 : x ≠ y1) (h2 : x ≠ y2) (h3 : x ≠ y3) (h4 : x ≠ y4) (h5 : x ≠ y5) (h6 : x ≠ y6) (h7 : x ≠ y7) (h8 : x ≠ y8) (h9 : x ≠ y9) (h10 : x ≠ y10) : lset [(y1, u1), (y2, u2), (y3, u3), (y4, u4), (y5, u5), (y6, u6), (y7, u7), (y8, u8), (y9, u9), (y10, u10)] x v = [(y1, u1), (y2, u2), (y3, u3), (y4, u4), (y5, u5), (y6, u6), (y7, u7), (y8, u8), (y9, u9), (y10, u10), (x, v)] := lset_tl h1 (lset_tl h2 (lset_tl h3 (lset_tl h4 (lset_tl h5 (lset_tl h6 (lset_tl h7 (lset_tl h8 (lset_tl h9 (lset_tl h10 (lset_nil))))))))))
theorem lget11 {ρ : Loc} {x y1 y2 y3 y4 y5 y6 y7 y8 y9 y10 y11 : Str} {v u1 u2 u3 u4 u5 u6 u7 u8 u9 u10 u11 : AVal} (h1 : x ≠ y1) (h2 : x ≠ y2) (h3 : x ≠ y3) (h4 : x ≠ y4) (h5 : x ≠ y5) (h6 : x ≠ y6) (h7 : x ≠ y7) (h8 : x ≠ y8) (h9 : x ≠ y9) (h10 : x ≠ y10) (h11 : x ≠ y11) : lget ((y1, u1) :: (y2, u2) :: (y3, u3) :: (y4, u4) :: (y5, u5) :: (y6, u6) :: (y7, u7) :: (y8, u8) :: (y9, u9) :: (y10, u10) :: (y11, u11) :: (x, v) :: ρ) x = some v := lget_tl h1 (lget_tl h2 (lget_tl h3 (lget_tl h4 (lget_tl h5 (lget_tl h6 (lget_tl h7 (lget_tl h8 (lget_tl h9 (lget_tl h10 (lget_tl h11 (lget_hd)))))))))))
theorem lset11 {ρ : Loc} {x y1 y2 y3 y4 y5 y6 y7 y8 y9 y10 y11 : Str} {v u u1 u2 u3 u4 u5 u6 u7 u8 u9 u10 u11 : AVal} (h1 : x ≠ y1) (h2 : x ≠ y2) (h3 : x ≠ y3) (h4 : x ≠ y4) (h5 : x ≠ y5) (h6 : x ≠ y6) (h7 : x ≠ y7) (h8 : x ≠ y8) (h9 : x ≠ y9) (h10 : x ≠ y10) (h11 : x ≠ y11) : lset ((y1, u1) :: (y2, u2) :: (y3, u3) :: (y4, u4) :: (y5, u5) :: (y6, u6) :: (y7, u7) :: (y8, u8) :: (y9, u9) :: (y10, u10) :: (y11, u11) :: (x, u) :: ρ) x v = (y1, u1) :: (y2, u2) :: (y3, u3) :: (y4, u4) :: (y5, u5) :: (y6, u6) :: (y7, u7) :: (y8, u8) :: (y9, u9) :: (y10, u10) :: (y11, u11) :: (x, v) :: ρ := lset_tl h1 (lset_tl h2 (lset_tl h3 (lset_tl h4 (lset_tl h5 (lset_tl h6 (lset_tl h7 (lset_tl h8 (lset_tl h9 (lset_tl h10 (lset_tl h11 (lset_hd)))))))))))
theorem lput11 {x y1 y2 y3 y4 y5 y6 y7 y8 y9 y10 y11 : Str} {v u1 u2 u3 u4 u5 u6 u7 u8 u9 u10 u11 : AVal} (h1 : x ≠ y1) (h2 : x ≠ y2) (h3 : x ≠ y3) (h4 : x ≠ y4) (h5 : x ≠ y5) (h6 : x ≠ y6) (h7 : x ≠ y7) (h8 : x ≠ y8) (h9 : x ≠ y9) (h10 : x ≠ y10) (h11 : x ≠ y11) : lset [(y1, u1), (y2, u2), (y3, u3), (y4, u4), (y5, u5), (y6, u6), (y7, u7), (y8, u8), (y9, u9), (y10, u10), (y11, u11)] x v = [(y1, u1), (y2, u2), (y3, u3), (y4, u4), (y5, u5), (y6, u6), (y7, u7), (y8, u8), (y9, u9), (y10, u10), (y11, u11), (x, v)] := lset_tl h1 (lset_tl h2 (lset_tl h3 (lset_tl h4 (lset_tl h5 (lset_tl h6 (lset_tl h7 (lset_tl h8 (lset_tl h9 (lset_tl h10 (lset_tl h11 (lset_nil)))))))))))
theorem lget12 {ρ : Loc} {x y1 y2 y3 y4 y5 y6 y7 y8 y9 y10 y11 y12 : Str} {v u1 u2 u3 u4 u5 u6 u7 u8 u9 u10 u11 u12 : AVal} (h1 : x ≠ y1) (h2 : x ≠ y2) (h3 : x ≠ y3) (h4 : x ≠ y4) (h5 : x ≠ y5) (h6 : x ≠ y6) (h7 : x ≠ y7) (h8 : x ≠ y8) (h9 : x ≠ y9) (h10 : x ≠ y10) (h11 : x ≠ y11) (h12 : x ≠ y12) : lget ((y1, u1) :: (y2, u2) :: (y3, u3) :: (y4, u4) :: (y5, u5) :: (y6, u6) :: (y7, u7) :: (y8, u8) :: (y9, u9) :: (y10, u10) :: (y11, u11) :: (y12, u12) :: (x, v) :: ρ) x = some v := lget_tl h1 (lget_tl h2 (lget_tl h3 (lget_tl h4 (lget_tl h5 (lget_tl h6 (lget_tl h7 (lget_tl h8 (lget_tl h9 (lget_tl h10 (lget_tl h11 (lget_tl h12 (lget_hd))))))))))))
theorem lset12 {ρ : Loc} {x y1 y2 y3 y4 y5 y6 y7 y8 y9 y10 y11 y12 : Str} {v u u1 u2 u3 u4 u5 u6 u7 u8 u9 u10 u11 u12 : AVal} (h1 : x ≠ y1) (h2 : x ≠ y2) (h3 : x ≠ y3) (h4 : x ≠ y4) (h5 : x ≠ y5) (h6 : x ≠ y6) (h7 : x ≠ y7) (h8 : x ≠ y8) (h9 : x ≠ y9) (h10 : x ≠ y10) (h11 : x ≠ y11) (h12 : x ≠ y12) : lset ((y1, u1) :: (y2, u2) :: (y3, u3) :: (y4, u4) :: (y5, u5) :: (y6, u6) :: (y7, u7) :: (y8, u8) :: (y9, u9) :: (y10, u10) :: (y11, u11) :: (y12, u12) :: (x, u) :: ρ) x v = (y1, u1) :: (y2, u2) :: (y3, u3) :: (y4, u4) :: (y5, u5) :: (y6, u6) :: (y7, u7) :: (y8, u8) :: (y9, u9) :: (y10, u10) :: (y11, u11) :: (y12, u12) :: (x, v) :: ρ := lset_tl h1 (lset_tl h2 (lset_tl h3 (lset_tl h4 (lset_tl h5 (lset_tl h6 (lset_tl h7 (lset_tl h8 (lset_tl h9 (lset_tl h10 (lset_tl h11 (lset_tl h12 (lset_hd))))))))))))
theorem lput12 {x y1 y2 y3 y4 y5 y6 y7 y8 y9 y10 y11 y12 : Str} {v u1 u2 u3 u4 u5 u6 u7 u8 u9 u10 u11 u12 : AVal} (h1 : x ≠ y1) (h2 : x ≠ y2) (h3 : x ≠ y3) (h4 : x ≠ y4) (h5 : x ≠ y5) (h6 : x ≠ y6) (h7 : x ≠ y7) (h8 : x ≠ y8) (h9 : x ≠ y9) (h10 : x ≠ y10) (h11 : x ≠ y11) (h12 : x ≠ y12) : lset [(y1, u1), (y2, u2), (y3, u3), (y4, u4), (y5, u5), (y6, u6), (y7, u7), (y8, u8), (y9, u9), (y10, u10), (y11, u11), (y12, u12)] x v = [(y1, u1), (y2, u2), (y3, u3), (y4, u4), (y5, u5), (y6, u6), (y7, u7), (y8, u8), (y9, u9), (y10, u10), (y11, u11), (y12, u12), (x, v)] := lset_tl h1 (lset_tl h2 (lset_tl h3 (lset_tl h4 (lset_tl h5 (lset_tl h6 (lset_tl h7 (lset_tl h8 (lset_tl h9 (lset_tl h10 (lset_tl h11 (lset_tl h12 (lset_nil))))))))))))
theorem lget_lset : ∀ (ρ : Loc) (x y : Str) (v : AVal), lget (lset ρ x v) y = if y = x then some v else lget ρ y
  | [], x, y, v => by simp [lset, lget]
  | (z, u) :: r, x, y, v => by
    by_cases h : x = z
    · subst h; simp only [lset, if_true, lget]; split <;> rfl
    · simp only [lset, if_neg h, lget, lget_lset r x y v]
      by_cases hy : y = z
      · subst hy; simp [Ne.symm h]
      · simp [hy]
noncomputable def Sub (ρ ρ' : Loc) : Prop := ∀ x v, lget ρ x = some v → lget ρ' x = some v
theorem Sub.refl (ρ : Loc) : Sub ρ ρ := fun _ _ e => e
theorem Sub.nil (ρ : Loc) : Sub [] ρ := fun _ _ e => by simp [lget] at e
theorem Sub.cons {ρ ρ' : Loc} {x : Str} {v : AVal} (h : lget ρ' x = some v) (s : Sub ρ ρ') : Sub ((x, v) :: ρ) ρ' := fun y u e => by
  by_cases hy : y = x
  · subst hy; simp [lget] at e; subst e; exact h
  · simp [lget, hy] at e; exact s y u e

structure EnvOK (sc : Scope) (env : Env) : Prop where
  scope : env.scope = sc
  kind : sc.kind = .function
  glob : env.globals = mainGlobals
  blt : env.builtins = builtinsNs
noncomputable def Own (env : Env) (a : Addr) : Prop := a = env.locals ∨ ∃ x, (x, a) ∈ env.cells

structure LRel (B : Base) (D X : Addr → Prop) (h : Heap) (env : Env) (ρ : Loc) : Prop where
  own : ∀ a, Own env a → X a
  ns : ∃ m, h.Ns env.locals m ∧ ∀ x a, lget ρ x = some a → env.kindOf x = some .local → ∃ v, m x = some v ∧ VRel B D h a v
  cell : ∀ x a, lget ρ x = some a → env.kindOf x = some .cell ∨ env.kindOf x = some .free → ∃ c v, env.cells.lookup x = some c ∧ h.IsCell c (some v) ∧ VRel B D h a v
  kind : ∀ x a, lget ρ x = some a → env.kindOf x = some .local ∨ env.kindOf x = some .cell ∨ env.kindOf x = some .free
  cells : ∀ x, env.kindOf x = some .cell ∨ env.kindOf x = some .free → ∃ c v, env.cells.lookup x = some c ∧ h.IsCell c v
  apart : ∀ x y c, env.cells.lookup x = some c → env.cells.lookup y = some c → x = y
  off : ∀ x c, (x, c) ∈ env.cells → c ≠ env.locals

section
variable {B : Base} {H H' : AHeap} {X D D' : Addr → Prop} {h h' : Heap} {env : Env} {ρ ρ' : Loc} {d : Nat} {sc : Scope}

theorem LRel.sub (L : LRel B D X h env ρ) (s : Sub ρ' ρ) : LRel B D X h env ρ' :=
  ⟨L.own, let ⟨m, n, f⟩ := L.ns; ⟨m, n, fun x a e => f x a (s x a e)⟩, fun x a e => L.cell x a (s x a e), fun x a e => L.kind x a (s x a e), L.cells, L.apart, L.off⟩
theorem LRel.moved (L : LRel B D X h env ρ) (k : KeptD D h D' h') (ho : ∀ a o, Own env a → h.get? a = some o → h'.get? a = some o) : LRel B D' X h' env ρ := by
  obtain ⟨m, n, f⟩ := L.ns
  refine ⟨L.own, ⟨m, ?_, fun x a e q => let ⟨v, g, r⟩ := f x a e q; ⟨v, g, r.mono k⟩⟩, fun x a e q => ?_, L.kind, fun x q => ?_, L.apart, L.off⟩
  · obtain ⟨o, es, ep, e, r⟩ := n; exact ⟨o, es, ep, ho _ _ (.inl rfl) e, r⟩
  · obtain ⟨c, v, c1, ⟨o, c2, c3⟩, c4⟩ := L.cell x a e q
    exact ⟨c, v, c1, ⟨o, ho c o (.inr ⟨x, mem_of_lookup c1⟩) c2, c3⟩, c4.mono k⟩
  · obtain ⟨c, v, c1, ⟨o, c2, c3⟩⟩ := L.cells x q
    exact ⟨c, v, c1, ⟨o, ho c o (.inr ⟨x, mem_of_lookup c1⟩) c2, c3⟩⟩
theorem LRel.kept (L : LRel B (Held H X) X h env ρ) (S : SRel B H X h) (k : Kept H h H' h') : LRel B (Held H' X) X h' env ρ :=
  L.moved k.held fun a o q e => (k a o e (S.hid a (L.own a q)).1).1

noncomputable def W (B : Base) (d : Nat) (sc : Scope) (ρ : Loc) (e : Expr) (Q : AVal → AHeap → Prop) (H : AHeap) : Prop :=
  ∀ (A : Around) (env : Env) (X : Addr → Prop) (s : Shared), Room d A → EnvOK sc env → SRel B H X s.heap → LRel B (Held H X) X s.heap env ρ →
    wpAny (model B.prog B.w) A (eval e env) (Ok B H X s Q) Fa s
noncomputable def WB (B : Base) (d : Nat) (sc : Scope) (ρ : Loc) (e : Expr) (Q : Bool → AHeap → Prop) (H : AHeap) : Prop :=
  ∀ (A : Around) (env : Env) (X : Addr → Prop) (s : Shared), Room d A → EnvOK sc env → SRel B H X s.heap → LRel B (Held H X) X s.heap env ρ →
    wpAny (model B.prog B.w) A (isTrue e env (eval e env)) (OkB B H X s Q) Fa s
/-- a list of expressions from left to right, as a display or a call takes them -/
noncomputable def WL (B : Base) (d : Nat) (sc : Scope) (ρ : Loc) (es : List Expr) (Q : List AVal → AHeap → Prop) (H : AHeap) : Prop :=
  ∀ (A : Around) (env : Env) (X : Addr → Prop) (s : Shared) (pos : Pos), Room d A → EnvOK sc env → SRel B H X s.heap → LRel B (Held H X) X s.heap env ρ →
    wpAny (model B.prog B.w) A (spliced (backTo pos (starEach es env))) (OkL B H X s Q) Fa s
noncomputable def V0 (B : Base) (d : Nat) (t : Sem Value) (Q : AVal → AHeap → Prop) (H : AHeap) : Prop :=
  ∀ (A : Around) (X : Addr → Prop) (s : Shared), Room d A → SRel B H X s.heap → wpAny (model B.prog B.w) A t (Ok B H X s Q) Fa s
noncomputable def V1 (B : Base) (d : Nat) (t : Value → Sem Value) (a : AVal) (Q : AVal → AHeap → Prop) (H : AHeap) : Prop :=
  ∀ (A : Around) (X : Addr → Prop) (s : Shared) (v : Value), Room d A → SRel B H X s.heap → VRel B (Held H X) s.heap a v → wpAny (model B.prog B.w) A (t v) (Ok B H X s Q) Fa s
noncomputable def V2 (B : Base) (d : Nat) (t : Value → Value → Sem Value) (a b : AVal) (Q : AVal → AHeap → Prop) (H : AHeap) : Prop :=
  ∀ (A : Around) (X : Addr → Prop) (s : Shared) (v u : Value), Room d A → SRel B H X s.heap → VRel B (Held H X) s.heap a v → VRel B (Held H X) s.heap b u →
    wpAny (model B.prog B.w) A (t v u) (Ok B H X s Q) Fa s
noncomputable def VL (B : Base) (d : Nat) (t : List Value → Sem Value) (xs : List AVal) (Q : AVal → AHeap → Prop) (H : AHeap) : Prop :=
  ∀ (A : Around) (X : Addr → Prop) (s : Shared) (vs : List Value), Room d A → SRel B H X s.heap → VRels B (Held H X) s.heap xs vs → wpAny (model B.prog B.w) A (t vs) (Ok B H X s Q) Fa s
noncomputable def T1 (B : Base) (d : Nat) (t : Value → Sem Bool) (a : AVal) (Q : Bool → AHeap → Prop) (H : AHeap) : Prop :=
  ∀ (A : Around) (X : Addr → Prop) (s : Shared) (v : Value), Room d A → SRel B H X s.heap → VRel B (Held H X) s.heap a v → wpAny (model B.prog B.w) A (t v) (OkB B H X s Q) Fa s
noncomputable def U2 (B : Base) (d : Nat) (t : Value → Value → Sem Unit) (a b : AVal) (Q : AHeap → Prop) (H : AHeap) : Prop :=
  ∀ (A : Around) (X : Addr → Prop) (s : Shared) (v u : Value), Room d A → SRel B H X s.heap → VRel B (Held H X) s.heap a v → VRel B (Held H X) s.heap b u →
    wpAny (model B.prog B.w) A (t v u) (fun _ => OkU B H X s Q) Fa s
noncomputable def U3 (B : Base) (d : Nat) (t : Value → Value → Value → Sem Unit) (a b c : AVal) (Q : AHeap → Prop) (H : AHeap) : Prop :=
  ∀ (A : Around) (X : Addr → Prop) (s : Shared) (v u z : Value), Room d A → SRel B H X s.heap → VRel B (Held H X) s.heap a v → VRel B (Held H X) s.heap b u → VRel B (Held H X) s.heap c z →
    wpAny (model B.prog B.w) A (t v u z) (fun _ => OkU B H X s Q) Fa s

/-! what is left to do, as named words: so no term stands under a binder -/
noncomputable abbrev V2Q (B : Base) (d : Nat) (t : Value → Value → Sem Value) (a : AVal) (Q : AVal → AHeap → Prop) : AVal → AHeap → Prop := fun b H₂ => V2 B d t a b Q H₂
noncomputable abbrev ThenQ (B : Base) (d : Nat) (sc : Scope) (ρ : Loc) (r : Expr) (t : Value → Value → Sem Value) (Q : AVal → AHeap → Prop) : AVal → AHeap → Prop := fun a H₁ => W B d sc ρ r (V2Q B d t a Q) H₁
noncomputable abbrev NotQ (Q : Bool → AHeap → Prop) : Bool → AHeap → Prop := fun b H₁ => Q (!b) H₁
noncomputable abbrev TruthQ (B : Base) (d : Nat) (Q : Bool → AHeap → Prop) : AVal → AHeap → Prop := fun v H₁ => T1 B d truthy v Q H₁
noncomputable abbrev IfEQ (B : Base) (d : Nat) (sc : Scope) (ρ : Loc) (b o : Expr) (Q : AVal → AHeap → Prop) : Bool → AHeap → Prop := fun c H₁ => (c = true → W B d sc ρ b Q H₁) ∧ (c = false → W B d sc ρ o Q H₁)
inductive NegQ (Q : AVal → AHeap → Prop) (v : AVal) (H : AHeap) : Prop
  | mk (i : Int) (e : v = .int i) (q : Q (.int (-i)) H) : NegQ Q v H

theorem Ok.trans {s s₁ : Shared} {Q : AVal → AHeap → Prop} {v : Value} {s' : Shared} (st : Step H s H' s₁) (o : Ok B H' X s₁ Q v s') : Ok B H X s Q v s' :=
  let ⟨x, H'', r, S, t, q⟩ := o; ⟨x, H'', r, S, st.trans t, q⟩
theorem OkB.trans {s s₁ : Shared} {Q : Bool → AHeap → Prop} {v : Bool} {s' : Shared} (st : Step H s H' s₁) (o : OkB B H' X s₁ Q v s') : OkB B H X s Q v s' :=
  let ⟨H'', S, t, q⟩ := o; ⟨H'', S, st.trans t, q⟩
theorem OkU.trans {s s₁ : Shared} {Q : AHeap → Prop} {s' : Shared} (st : Step H s H' s₁) (o : OkU B H' X s₁ Q s') : OkU B H X s Q s' :=
  let ⟨H'', S, t, q⟩ := o; ⟨H'', S, st.trans t, q⟩
theorem OkL.trans {s s₁ : Shared} {Q : List AVal → AHeap → Prop} {v : List Value} {s' : Shared} (st : Step H s H' s₁) (o : OkL B H' X s₁ Q v s') : OkL B H X s Q v s' :=
  let ⟨x, H'', r, S, t, q⟩ := o; ⟨x, H'', r, S, st.trans t, q⟩
theorem Ok.same {s s' : Shared} {Q : AVal → AHeap → Prop} {v : Value} {x : AVal} (r : VRel B (Held H X) s'.heap x v) (S : SRel B H X s'.heap) (t : Step H s H s') (q : Q x H) : Ok B H X s Q v s' := ⟨x, H, r, S, t, q⟩
theorem Ok.tok {s : Shared} {Q : AVal → AHeap → Prop} {v : Value} {x : AVal} {n : Nat} (S : SRel B H X s.heap) (r : VRel B (Held H X) s.heap x v) (q : Q x H) : Ok B H X s Q v { s with toks := n } :=
  ⟨x, H, r, S, Step.toks _ _ _, q⟩
theorem Ok.now {s : Shared} {Q : AVal → AHeap → Prop} {v : Value} {x : AVal} (S : SRel B H X s.heap) (r : VRel B (Held H X) s.heap x v) (q : Q x H) : Ok B H X s Q v s :=
  ⟨x, H, r, S, Step.refl _ _, q⟩

/-- after a step: go on -/
theorem seqOk {A : Around} {s : Shared} {α : Type} {t : Sem Value} {f : Value → Sem α} {Q₁ : AVal → AHeap → Prop} {R : α → Shared → Prop}
    (h : wpAny (model B.prog B.w) A t (Ok B H X s Q₁) Fa s)
    (k : ∀ v s₁ x H₁, VRel B (Held H₁ X) s₁.heap x v → SRel B H₁ X s₁.heap → Step H s H₁ s₁ → Q₁ x H₁ → wpAny (model B.prog B.w) A (f v) R Fa s₁) :
    wpAny (model B.prog B.w) A (t >>= f) R Fa s :=
  wpAny_bind (wpAny_mono h (fun v s₁ ⟨x, H₁, r, S, st, q⟩ => k v s₁ x H₁ r S st q) fun _ _ e => e)
theorem monoOk {A : Around} {s : Shared} {α : Type} {t : Sem α} {R R' : α → Shared → Prop} (h : wpAny (model B.prog B.w) A t R Fa s) (k : ∀ v s', R v s' → R' v s') :
    wpAny (model B.prog B.w) A t R' Fa s := wpAny_mono h k fun _ _ e => e

/-! ### constants and names -/

theorem W_int {i : Int} {k : Nat} {pos : Pos} {Q : AVal → AHeap → Prop} (q : Q (.int i) H) : W B d sc ρ (.Constant (.int i) k pos) Q H :=
  fun _ _ _ _ _ _ S _ => wpAny_Constant_int (Ok.tok S .int q)
theorem W_str {x : Str} {k : Nat} {pos : Pos} {Q : AVal → AHeap → Prop} (q : Q (.str x) H) : W B d sc ρ (.Constant (.str x) k pos) Q H :=
  fun _ _ _ _ _ _ S _ => Calls.Constant_str (Ok.tok S .str q)
theorem W_none {k : Nat} {pos : Pos} {Q : AVal → AHeap → Prop} (q : Q .none H) : W B d sc ρ (.Constant .none k pos) Q H :=
  fun _ _ _ _ _ _ S _ => wpAny_pure (Ok.now S .none q)
theorem W_bool {b : Bool} {k : Nat} {pos : Pos} {Q : AVal → AHeap → Prop} (q : Q (.bool b) H) : W B d sc ρ (.Constant (.bool b) k pos) Q H :=
  fun _ _ _ _ _ _ S _ => wpAny_pure (Ok.now S .bool q)

theorem W_var {x : Str} {pos : Pos} {v : AVal} {Q : AVal → AHeap → Prop} (hx : lget ρ x = some v) (q : Q v H) (hd : (x == ("__debug__" : Str)) = false := by decide +kernel)
    (hc : (x == ("__classdict__" : Str)) = false := by decide +kernel) :
    W B d sc ρ (.Name x pos) Q H := fun A env X s _ E S L => by
  have hk : env.scope.kind = .function := E.scope ▸ E.kind
  rcases L.kind x v hx with k | k
  · obtain ⟨m, n, f⟩ := L.ns
    obtain ⟨u, g, r⟩ := f x v hx k
    exact wpAny_Name (wpAny_loadName_local hk k n g (Ok.now S r q)) hd
  · obtain ⟨c, u, c1, c2, r⟩ := L.cell x v hx k
    rcases k with k | k
    · exact wpAny_Name (wpAny_loadName_cell hk k c1 c2 (Ok.now S r q)) hd
    · exact wpAny_Name (wpAny_loadName_free hk k c1 c2 (Ok.now S r q) hc) hd

theorem Ns.base (S : SRel B H X h) {a : Addr} {m : Str → Option Value} (n : B.h₀.Ns a m) : h.Ns a m :=
  let ⟨o, es, ep, e, r⟩ := n; ⟨o, es, ep, (S.base _ _ e).1, r⟩
theorem glob_of {B : Base} {n : Str} {v : Value} (e : nsIn B.K mainGlobals n = some (some v)) : B.mg n = some v := mg_of B.inK B.glob e
theorem globNone_of {B : Base} {n : Str} (e : nsIn B.K mainGlobals n = some none) : B.mg n = none := mg_none_of B.inK B.glob e

/-- a global name of the text: its value as it stands -/
theorem eval_global {A : Around} {s : Shared} {x : Str} {pos : Pos} {v : Value} {Q : Value → Shared → Prop} (E : EnvOK sc env) (S : SRel B H X s.heap) (hg : B.mg x = some v)
    (hk : sc.names.lookup x = some .globalImplicit) (q : Q v s) (hd : (x == ("__debug__" : Str)) = false := by decide +kernel) : wpAny (model B.prog B.w) A (eval (.Name x pos) env) Q Fa s :=
  Calls.Name_function_global (E.scope ▸ E.kind) (by unfold Env.kindOf; rw [E.scope]; exact hk) (Calls.loadGlobal_global (E.glob ▸ Ns.base S B.glob) hg q) hd
theorem eval_builtin {A : Around} {s : Shared} {x : Str} {pos : Pos} {v : Value} {Q : Value → Shared → Prop} (E : EnvOK sc env) (S : SRel B H X s.heap) (hg : B.mg x = none) (hv : bootBuiltins x = some v)
    (hk : sc.names.lookup x = some .globalImplicit) (q : Q v s) (hn : x ≠ ("__name__" : Str) := by decide +kernel) (hd : (x == ("__debug__" : Str)) = false := by decide +kernel) :
    wpAny (model B.prog B.w) A (eval (.Name x pos) env) Q Fa s :=
  Calls.Name_function_global (E.scope ▸ E.kind) (by unfold Env.kindOf; rw [E.scope]; exact hk) (Calls.loadGlobal_builtin (E.glob ▸ Ns.base S B.glob) hg (E.blt ▸ Ns.base S B.blt) ((B.bltv x hn).trans hv) q) hd
theorem W_gstr {x : Str} {pos : Pos} {v : Str} {t : Tok} {Q : AVal → AHeap → Prop} (hg : B.mg x = some (.str v t)) (hk : sc.names.lookup x = some .globalImplicit) (q : Q (.str v) H)
    (hd : (x == ("__debug__" : Str)) = false := by decide +kernel) : W B d sc ρ (.Name x pos) Q H := fun _ _ _ _ _ E S _ => eval_global E S hg hk (Ok.now S .str q) hd

/-! ### operators -/

theorem W_bin {l r : Expr} {op : Operator} {pos : Pos} {Q : AVal → AHeap → Prop}
    (h : W B d sc ρ l (ThenQ B d sc ρ r (binaryOp op) Q) H) : W B d sc ρ (.BinOp l op r pos) Q H := fun A env X s R E S L =>
  wpAny_BinOp (monoOk (h A env X s R E S L) fun a s₁ ⟨x, H₁, r₁, S₁, t₁, q₁⟩ => monoOk (q₁ A env X s₁ R E S₁ (L.kept S t₁.2)) fun b s₂ ⟨y, H₂, r₂, S₂, t₂, q₂⟩ =>
    monoOk (q₂ A X s₂ a b R S₂ (r₁.mono t₂.2.held) r₂) fun _ _ o => (o.trans t₂).trans t₁)
theorem W_cmp {l r : Expr} {op : CmpOp} {pos : Pos} {Q : AVal → AHeap → Prop}
    (h : W B d sc ρ l (ThenQ B d sc ρ r (compareOp op) Q) H) (hm : behindInMarks op r = false := by with_unfolding_all rfl) : W B d sc ρ (.Compare l [op] [r] pos) Q H := fun A env X s R E S L =>
  wpAny_Compare1 (monoOk (h A env X s R E S L) fun a s₁ ⟨x, H₁, r₁, S₁, t₁, q₁⟩ => monoOk (q₁ A env X s₁ R E S₁ (L.kept S t₁.2)) fun b s₂ ⟨y, H₂, r₂, S₂, t₂, q₂⟩ =>
    monoOk (q₂ A X s₂ a b R S₂ (r₁.mono t₂.2.held) r₂) fun _ _ o => (o.trans t₂).trans t₁) hm
theorem WB_cmp {l r : Expr} {op : CmpOp} {pos : Pos} {Q : Bool → AHeap → Prop}
    (h : W B d sc ρ l (ThenQ B d sc ρ r (compareOp op) (BoolQ Q)) H) (hm : behindInMarks op r = false := by with_unfolding_all rfl) :
    WB B d sc ρ (.Compare l [op] [r] pos) Q H := fun A env X s R E S L =>
  wpAny_isTrue_Compare1 (monoOk (h A env X s R E S L) fun a s₁ ⟨x, H₁, r₁, S₁, t₁, q₁⟩ => monoOk (q₁ A env X s₁ R E S₁ (L.kept S t₁.2)) fun b s₂ ⟨y, H₂, r₂, S₂, t₂, q₂⟩ =>
    monoOk (q₂ A X s₂ a b R S₂ (r₁.mono t₂.2.held) r₂) fun c s₃ ⟨z, H₃, r₃, S₃, t₃, b', e, q₃⟩ => by
      subst e; cases r₃; exact wpAny_truthy_bool ⟨H₃, S₃, (t₁.trans t₂).trans t₃, q₃⟩) hm
theorem WB_not {x : Expr} {pos : Pos} {Q : Bool → AHeap → Prop} (h : WB B d sc ρ x (NotQ Q) H) : WB B d sc ρ (.UnaryOp .Not x pos) Q H := fun A env X s R E S L =>
  wpAny_isTrue_Not (monoOk (h A env X s R E S L) fun _ _ ⟨a, b, c, e⟩ => ⟨a, b, c, e⟩)
theorem WB_value {e : Expr} {Q : Bool → AHeap → Prop} (h : W B d sc ρ e (TruthQ B d Q) H)
    (he : ∀ env whole, isTrue e env whole = (do let v ← whole; standAt e.pos; holding [v] (truthy v)) := by intro _ _; rfl) : WB B d sc ρ e Q H := fun A env X s R E S L =>
  wpAny_isTrue_value (monoOk (h A env X s R E S L) fun v s₁ ⟨x, H₁, r₁, S₁, t₁, q₁⟩ => monoOk (q₁ A X s₁ v R S₁ r₁) fun _ _ o => o.trans t₁) (he _ _)
theorem T1_bool {b : Bool} {Q : Bool → AHeap → Prop} (q : Q b H) : T1 B d truthy (.bool b) Q H := fun A X s v R S r => by cases r; exact wpAny_truthy_bool ⟨H, S, Step.refl _ _, q⟩
theorem W_if {t b o : Expr} {pos : Pos} {Q : AVal → AHeap → Prop} (h : WB B d sc ρ t (IfEQ B d sc ρ b o Q) H) : W B d sc ρ (.IfExp t b o pos) Q H := fun A env X s R E S L =>
  wpAny_IfExp (monoOk (h A env X s R E S L) fun c s₁ ⟨H₁, S₁, t₁, q₁⟩ => by
    cases c with
    | true => exact monoOk (q₁.1 rfl A env X s₁ R E S₁ (L.kept S t₁.2)) fun _ _ o => o.trans t₁
    | false => exact monoOk (q₁.2 rfl A env X s₁ R E S₁ (L.kept S t₁.2)) fun _ _ o => o.trans t₁)
theorem W_neg {x : Expr} {pos : Pos} {Q : AVal → AHeap → Prop} (h : W B d sc ρ x (NegQ Q) H) : W B d sc ρ (.UnaryOp .USub x pos) Q H := fun A env X s R E S L => by
  show wpAny _ A (do let v ← eval x env; standAt pos; holding [v] (unaryOp .USub v)) _ _ s
  refine seqOk (h A env X s R E S L) fun v s₁ y H₁ r₁ S₁ t₁ q₁ => ?_
  obtain ⟨i, rfl, q⟩ := q₁
  cases r₁
  exact wpAny_bind (wpAny_standAt (wpAny_holding (neg_int ((Ok.tok S₁ .int q).trans t₁))))

end

section
variable {B : Base} {H H' : AHeap} {X D D' : Addr → Prop} {h h' : Heap} {env : Env} {ρ ρ' : Loc} {d : Nat} {sc : Scope}

/-! ### ints, strs, bools -/

theorem V2_add {i j : Int} {Q : AVal → AHeap → Prop} (q : Q (.int (i + j)) H) : V2 B d (binaryOp .Add) (.int i) (.int j) Q H := fun A X s v u R S r r' => by
  cases r; cases r'; exact PySem.P.add_int (Ok.tok S .int q)
theorem V2_sub {i j : Int} {Q : AVal → AHeap → Prop} (q : Q (.int (i - j)) H) : V2 B d (binaryOp .Sub) (.int i) (.int j) Q H := fun A X s v u R S r r' => by
  cases r; cases r'; exact PySem.P.sub_int (Ok.tok S .int q)
theorem V2_mul {i j : Int} {Q : AVal → AHeap → Prop} (q : Q (.int (i * j)) H) (hm : IntMulOk i j) : V2 B d (binaryOp .Mult) (.int i) (.int j) Q H := fun A X s v u R S r r' => by
  cases r; cases r'; exact PySem.P.mul_int (Ok.tok S .int q) hm
theorem V2_mod {i j : Int} {Q : AVal → AHeap → Prop} (q : Q (.int (i.fmod j)) H) (hj : j ≠ 0) : V2 B d (binaryOp .Mod) (.int i) (.int j) Q H := fun A X s v u R S r r' => by
  cases r; cases r'; exact mod_int' hj (Ok.tok S .int q)
theorem V2_fdiv {i j : Int} {Q : AVal → AHeap → Prop} (q : Q (.int (i.fdiv j)) H) (hj : j ≠ 0) (hp : Builtin.divisionGoesByPylong i j = false) : V2 B d (binaryOp .FloorDiv) (.int i) (.int j) Q H := fun A X s v u R S r r' => by
  cases r; cases r'; exact floordiv_int hj (Ok.tok S .int q) (.inl hp)
theorem V2_eqI {i j : Int} {Q : AVal → AHeap → Prop} (q : Q (.bool (i == j)) H) : V2 B d (compareOp .Eq) (.int i) (.int j) Q H := fun A X s v u R S r r' => by
  cases r; cases r'; exact PySem.P.eq_int (Ok.now S .bool q)
theorem V2_neI {i j : Int} {Q : AVal → AHeap → Prop} (q : Q (.bool (i != j)) H) : V2 B d (compareOp .NotEq) (.int i) (.int j) Q H := fun A X s v u R S r r' => by
  cases r; cases r'; exact PySem.P.ne_int (Ok.now S .bool q)
theorem V2_ltI {i j : Int} {Q : AVal → AHeap → Prop} (q : Q (.bool (decide (i < j))) H) : V2 B d (compareOp .Lt) (.int i) (.int j) Q H := fun A X s v u R S r r' => by
  cases r; cases r'; exact PySem.P.lt_int (Ok.now S .bool q)
theorem V2_gtI {i j : Int} {Q : AVal → AHeap → Prop} (q : Q (.bool (decide (i > j))) H) : V2 B d (compareOp .Gt) (.int i) (.int j) Q H := fun A X s v u R S r r' => by
  cases r; cases r'; exact PySem.P.gt_int (Ok.now S .bool q)
theorem V2_geI {i j : Int} {Q : AVal → AHeap → Prop} (q : Q (.bool (decide (i ≥ j))) H) : V2 B d (compareOp .GtE) (.int i) (.int j) Q H := fun A X s v u R S r r' => by
  cases r; cases r'; exact PySem.P.ge_int (Ok.now S .bool q)

/-! ### displays -/

theorem Kept.size (H : AHeap) (h : Heap) (o : Obj) : Kept H h H (h.push o) := Kept.push o
theorem Step.push (H : AHeap) (s : Shared) (o : Obj) : Step H s H { s with heap := s.heap.push o } := ⟨⟨s.heap.push o, s.toks, rfl⟩, Kept.push o⟩
theorem KeptD.push (o : Obj) : KeptD D h D (h.push o) := fun _ _ e i => ⟨Heap.get?_push_of_some o e, i⟩

theorem new_tup {A : Around} {s : Shared} {xs : List AVal} {vs : List Value} {Q : AVal → AHeap → Prop} (S : SRel B H X s.heap) (r : VRels B (Held H X) s.heap xs vs) (q : Q (.tup xs) H) (hz : xs.length ≤ sizeLine) :
    wpAny (model B.prog B.w) A (newTuple vs) (Ok B H X s Q) Fa s :=
  wpAny_newObj_type (Ok.same (.tup (n := 0) (Heap.get?_push_size _ rfl) S.fresh r.1 fun i x v a b => (r.2 i x v a b).mono (KeptD.push _)) (S.push _) (Step.push _ _ _) q)
    (by show vs.toArray.size ≤ sizeLine; rw [List.size_toArray, r.1]; exact hz)
theorem new_lst {A : Around} {s : Shared} {xs : List AVal} {vs : List Value} {Q : AVal → AHeap → Prop} (S : SRel B H X s.heap) (r : VRels B (Held H X) s.heap xs vs) (q : Q (.lst xs) H) (hz : xs.length ≤ sizeLine) :
    wpAny (model B.prog B.w) A (newList vs) (Ok B H X s Q) Fa s :=
  wpAny_newObj_type (Ok.same (.lst (n := 0) (Heap.get?_push_size _ rfl) S.fresh r.1 fun i x v a b => (r.2 i x v a b).mono (KeptD.push _)) (S.push _) (Step.push _ _ _) q)
    (by show vs.toArray.size ≤ sizeLine; rw [List.size_toArray, r.1]; exact hz)

/-- a frozen list that no one else holds is taken into the store -/
theorem take_new {s : Shared} {a : Addr} {ob : AObj} {o : Obj} (S : SRel B H X h) (hf : o.isFreed = false)
    (hr : ∀ D', KeptD (Held H X) h D' (h.push o) → ORep B (upd H h.objs.size (some ob)) D' (h.push o) h.objs.size ob) :
    SRel B (upd H h.objs.size (some ob)) X (h.push o) ∧ Kept H h (upd H h.objs.size (some ob)) (h.push o) := by
  have S1 := S.hide o hf
  have k : Kept H h (upd H h.objs.size (some ob)) (h.push o) := fun b o' e i => by
    have hb : b ≠ h.objs.size := Nat.ne_of_lt (Heap.lt_size e)
    exact ⟨Heap.get?_push_of_some _ e, by rw [upd_ne _ _ hb]; exact i⟩
  have nx : ¬ X h.objs.size := fun q => S.fresh (.inr q)
  refine ⟨S1.take (.inr rfl) (fun b => ⟨fun q => ⟨.inl q, fun z => nx (z ▸ q)⟩, fun q => q.1.resolve_right q.2⟩) (hr _ fun b o' e i => ⟨Heap.get?_push_of_some _ e, fun q => ?_⟩), k⟩
  exact q.elim (fun z => i (.inl z)) fun z => z.elim (fun z => i (.inr z)) fun z => Nat.ne_of_lt (Heap.lt_size e) z

theorem new_list {A : Around} {s : Shared} {xs : List AVal} {vs : List Value} {Q : AVal → AHeap → Prop} (S : SRel B H X s.heap) (r : VRels B (Held H X) s.heap xs vs)
    (q : ∀ a, H a = none → Q (.ref a) (upd H a (some (.list xs)))) (hz : xs.length ≤ sizeLine) : wpAny (model B.prog B.w) A (newList vs) (Ok B H X s Q) Fa s := by
  refine wpAny_newObj_type ?_ (by show vs.toArray.size ≤ sizeLine; rw [List.size_toArray, r.1]; exact hz)
  obtain ⟨S', k⟩ := take_new (s := s) (a := 0) (ob := .list xs) (o := { cls := Value.type "list", data := Data.seq vs.toArray }) S rfl fun D' kd => ⟨vs, 0, Heap.get?_push_size _ rfl, r.mono kd⟩
  exact ⟨.ref _, _, .ref, S', ⟨⟨_, _, rfl⟩, k⟩, q _ (Held.none S.fresh)⟩

noncomputable abbrev ConsQ (x : AVal) (Q : List AVal → AHeap → Prop) : List AVal → AHeap → Prop := fun xs H₂ => Q (x :: xs) H₂
noncomputable abbrev RestQ (B : Base) (d : Nat) (sc : Scope) (ρ : Loc) (es : List Expr) (Q : List AVal → AHeap → Prop) : AVal → AHeap → Prop := fun x H₁ => WL B d sc ρ es (ConsQ x Q) H₁
noncomputable abbrev TupQ (Q : AVal → AHeap → Prop) : List AVal → AHeap → Prop := fun xs H₁ => xs.length ≤ 1000 ∧ Q (.tup xs) H₁
noncomputable abbrev LstQ (Q : AVal → AHeap → Prop) : List AVal → AHeap → Prop := fun xs H₁ => xs.length ≤ 1000 ∧ Q (.lst xs) H₁
noncomputable abbrev NewLQ (Q : AVal → AHeap → Prop) : List AVal → AHeap → Prop := fun xs H₁ => xs.length ≤ 1000 ∧ ∀ a, H₁ a = none → Q (.ref a) (upd H₁ a (some (.list xs)))
theorem WL_nil {Q : List AVal → AHeap → Prop} (q : Q [] H) : WL B d sc ρ [] Q H := fun A env X s pos R E S L => wpAny_pure ⟨[], H, .nil, S, Step.refl _ _, q⟩
theorem WL_cons {e : Expr} {es : List Expr} {Q : List AVal → AHeap → Prop} (h : W B d sc ρ e (RestQ B d sc ρ es Q) H)
    (he : ∀ env, starEach (e :: es) env = (false, eval e env) :: starEach es env := by intro _; with_unfolding_all rfl) : WL B d sc ρ (e :: es) Q H := fun A env X s pos R E S L => by
  rw [he]
  show wpAny _ A (spliced ((false, eval e env) :: backTo pos (starEach es env))) _ _ s
  exact Calls.spliced_cons (monoOk (h A env X s R E S L) fun v s₁ ⟨x, H₁, r₁, S₁, t₁, q₁⟩ => monoOk (q₁ A env X s₁ pos R E S₁ (L.kept S t₁.2)) fun vs s₂ ⟨xs, H₂, r₂, S₂, t₂, q₂⟩ =>
    ⟨x :: xs, H₂, VRels.cons (r₁.mono t₂.2.held) r₂, S₂, t₁.trans t₂, q₂⟩)

theorem W_tup {es : List Expr} {k : Nat} {pos : Pos} {Q : AVal → AHeap → Prop} (h : WL B d sc ρ es (TupQ Q) H) : W B d sc ρ (.Tuple es k pos) Q H := fun A env X s R E S L =>
  Tuple_ (monoOk (h A env X s pos R E S L) fun vs s₁ ⟨xs, H₁, r₁, S₁, t₁, hz, q₁⟩ => monoOk (new_tup S₁ r₁ q₁ (by rw [sizeLine_eq]; lia)) fun _ _ o => o.trans t₁)
/-- a list display: frozen at birth -/
theorem W_lst {es : List Expr} {pos : Pos} {Q : AVal → AHeap → Prop} (h : WL B d sc ρ es (LstQ Q) H) : W B d sc ρ (.List es pos) Q H := fun A env X s R E S L =>
  List_ (monoOk (h A env X s pos R E S L) fun vs s₁ ⟨xs, H₁, r₁, S₁, t₁, hz, q₁⟩ => monoOk (new_lst S₁ r₁ q₁ (by rw [sizeLine_eq]; lia)) fun _ _ o => o.trans t₁)
/-- a list display: in the store -/
theorem W_list {es : List Expr} {pos : Pos} {Q : AVal → AHeap → Prop} (h : WL B d sc ρ es (NewLQ Q) H) : W B d sc ρ (.List es pos) Q H := fun A env X s R E S L =>
  List_ (monoOk (h A env X s pos R E S L) fun vs s₁ ⟨xs, H₁, r₁, S₁, t₁, hz, q₁⟩ => monoOk (new_list S₁ r₁ q₁ (by rw [sizeLine_eq]; lia)) fun _ _ o => o.trans t₁)

theorem SRel.notSys (S : SRel B H X h) : (h.objs.size == sysModules) = false := by
  obtain ⟨mc, ⟨o, es, ep, e, _⟩, _⟩ := B.lim
  have h1 : cStatics < h.objs.size := Heap.lt_size (S.base _ _ e).1
  exact beq_eq_false_iff_ne.mpr (Nat.ne_of_gt (Nat.lt_trans (by decide) h1))
theorem new_dict {A : Around} {s : Shared} {Q : AVal → AHeap → Prop} (S : SRel B H X s.heap) (q : ∀ a, H a = none → Q (.ref a) (upd H a (some (.dict [])))) :
    wpAny (model B.prog B.w) A newDict (Ok B H X s Q) Fa s := by
  refine wpAny_newObj_type ?_ (by show (#[] : Array DictEntry).size ≤ _; simp)
  obtain ⟨S', k⟩ := take_new (s := s) (a := 0) (ob := .dict []) (o := { cls := Value.type "dict", data := Data.dict #[] }) S rfl fun D' kd => ⟨[], Heap.DictOf.new _, S.notSys, rfl, fun i k x k' v a _ => by simp at a⟩
  exact ⟨.ref _, _, .ref, S', ⟨⟨_, _, rfl⟩, k⟩, q _ (Held.none S.fresh)⟩
theorem W_dict0 {pos : Pos} {Q : AVal → AHeap → Prop} (q : ∀ a, H a = none → Q (.ref a) (upd H a (some (.dict [])))) : W B d sc ρ (.Dict [] [] pos) Q H := fun A env X s R E S L => by
  rw [eval_Dict_empty]
  exact wpAny_bind (wpAny_standAt (new_dict S q))
end

section
variable {B : Base} {H H' : AHeap} {X D D' : Addr → Prop} {h h' : Heap} {env : Env} {ρ ρ' : Loc} {d : Nat} {sc : Scope}

/-! ### calls by a name -/

theorem SRel.inK (S : SRel B H X h) : B.K.In h := B.inK.keeps fun b o e => (S.base b o e).1

theorem evalArgs_any {M : Model} {A : Around} {E : Value → Shared → Prop} {s : Shared} {f : Value} {Q : Args → Shared → Prop} : ∀ {trees : List (Bool × Sem Value)}, trees.any (·.1) = false →
    wpAny M A (spliced trees) (fun vs s' => Q ⟨vs, []⟩ s') E s → wpAny M A (evalArgs f true trees []) Q E s
  | [], _, h => by
    unfold evalArgs
    show wpAny M A (spliced [] >>= _) Q E s
    refine wpAny_bind (wpAny_mono h (fun vs s' h' => ?_) fun _ _ x => x)
    exact wpAny_holding (wpAny_bind (wpAny_pure (wpAny_bind (wpAny_pure (wpAny_pure h')))))
  | (b, x) :: r, hp, h => by
    have hb : b = false := by simp only [List.any_cons, Bool.or_eq_false_iff] at hp; exact hp.1
    subst hb
    exact Calls.evalArgs_plain h

/-- the arguments, then the call -/
theorem callWith_args {A : Around} {s : Shared} {pos : Pos} {f : Value} {first : List Value} {zs : List AVal} {args : List Expr} {Q : AVal → AHeap → Prop} (R : Room d A) (E : EnvOK sc env) (S : SRel B H X s.heap) (L : LRel B (Held H X) X s.heap env ρ)
    (rz : VRels B (Held H X) s.heap zs first)
    (hk : ∀ h, B.K.In h → ∃ k, (k = Keeper.frame ∨ k = Keeper.machine ∨ k = Keeper.boundFrame) ∧ Looks (model B.prog B.w) h (keeperOf f) k) (hp : ∀ env pos, (backTo pos (starEach args env)).any (·.1) = false)
    (h : WL B d sc ρ args (fun xs H₁ => VL B d (fun vs => call f vs) (zs ++ xs) Q H₁) H) :
    wpAny (model B.prog B.w) A (callWith pos f first (backTo pos (starEach args env)) []) (Ok B H X s Q) Fa s := by
  refine callWith_of (P := B.K.In) (by rw [hp]; rfl) hk (evalArgs_any (hp _ _) (monoOk (h A env X s pos R E S L) fun vs s₁ ⟨xs, H₁, r₁, S₁, t₁, q₁⟩ => ?_))
  exact ⟨S₁.inK, monoOk (q₁ A X s₁ (first ++ vs) R S₁ ((rz.mono t₁.2.held).append r₁)) fun _ _ o => o.trans t₁⟩

noncomputable abbrev CallF (B : Base) (d : Nat) (f : Addr) (xs : List AVal) (Q : AVal → AHeap → Prop) (H : AHeap) : Prop := VL B d (fun vs => call (.ref f) vs) xs Q H

theorem W_call {x : Str} {f : Addr} {p pos : Pos} {args : List Expr} {Q : AVal → AHeap → Prop} (hg : B.mg x = some (.ref f)) (hkeep : keepIn B.K (.ref f) = true) (hk : sc.names.lookup x = some .globalImplicit)
    (h : WL B d sc ρ args (fun xs H₁ => CallF B d f xs Q H₁) H) (hd : (x == ("__debug__" : Str)) = false := by decide +kernel) (hp : ∀ env pos, (backTo pos (starEach args env)).any (·.1) = false := by intro _ _; rfl) :
    W B d sc ρ (.Call (.Name x p) args [] pos) Q H := fun A env X s R E S L =>
  wpAny_Call_ofName (eval_global E S hg hk (callWith_args R E S L .nil (fun h K => keeps_K hkeep h K) hp h) hd)
/-- a built-in function or type, called by its name -/
theorem W_callb {x : Str} {v : Value} {p pos : Pos} {args : List Expr} {Q : AVal → AHeap → Prop} (hg : B.mg x = none) (hv : bootBuiltins x = some v) (hk : sc.names.lookup x = some .globalImplicit) (hm : ∀ a, v ≠ .ref a)
    (h : WL B d sc ρ args (fun xs H₁ => VL B d (fun vs => call v vs) xs Q H₁) H) (hn : x ≠ ("__name__" : Str) := by decide +kernel) (hd : (x == ("__debug__" : Str)) = false := by decide +kernel) (hp : ∀ env pos, (backTo pos (starEach args env)).any (·.1) = false := by intro _ _; rfl) :
    W B d sc ρ (.Call (.Name x p) args [] pos) Q H := fun A env X s R E S L =>
  wpAny_Call_ofName (eval_builtin E S hg hv hk (callWith_args R E S L .nil (fun h K => ⟨.machine, .inr (.inl rfl), by
    unfold keeperOf
    cases v <;> first | exact absurd rfl (hm _) | exact .now⟩) hp h) hn hd)

/-! ### instances -/

noncomputable def IsInst (H : AHeap) (a : AVal) (C : Addr) (fs : List (Str × AVal)) : Prop := a = .obj C fs ∨ ∃ x dx, a = .ref x ∧ H x = some (.inst C dx fs)

theorem inst_of {a : AVal} {v : Value} {C : Addr} {fs : List (Str × AVal)} (S : SRel B H X h) (r : VRel B (Held H X) h a v) (i : IsInst H a C fs) :
    ∃ x dx es n, v = .ref x ∧ h.get? x = some (instObj C dx) ∧ h.get? dx = some (dictOf es n) ∧ FRels B (Held H X) h fs es := by
  rcases i with rfl | ⟨x, dx, rfl, e⟩
  · cases r with
    | obj ha hd hi hid hl hn hv => exact ⟨_, _, _, _, rfl, ha, hd, hl, hn, hv⟩
  · cases r
    obtain ⟨es, n, e1, e2, _, f⟩ := S.objs _ _ e
    exact ⟨x, dx, es, n, rfl, e1, e2, f⟩
theorem FRels.nil : FRels B D h [] [] := ⟨rfl, fun i x v e a _ => by simp at a, fun i x v e a _ => by simp at a⟩
theorem FRels.inv_cons {x : Str} {v : AVal} {fs : List (Str × AVal)} {es : List DictEntry} (f : FRels B D h ((x, v) :: fs) es) : ∃ e r, es = e :: r ∧ (∃ t, e.key = .str x t) ∧ VRel B D h v e.val ∧ FRels B D h fs r := by
  obtain ⟨f1, f2, f3⟩ := f
  cases es with
  | nil => simp at f1
  | cons e r => exact ⟨e, r, rfl, f2 0 x v e rfl rfl, f3 0 x v e rfl rfl, by simpa using f1, fun i y u z a b => f2 (i + 1) y u z (by simpa using a) (by simpa using b), fun i y u z a b => f3 (i + 1) y u z (by simpa using a) (by simpa using b)⟩
theorem FRels.cons {x : Str} {v : AVal} {fs : List (Str × AVal)} {e : DictEntry} {r : List DictEntry} (hk : ∃ t, e.key = .str x t) (hv : VRel B D h v e.val) (f : FRels B D h fs r) : FRels B D h ((x, v) :: fs) (e :: r) :=
  ⟨by simp [f.1], fun i y u z a b => by
    cases i with
    | zero => simp at a b; obtain ⟨rfl, rfl⟩ := a; subst b; exact hk
    | succ i => exact f.2.1 i y u z (by simpa using a) (by simpa using b), fun i y u z a b => by
    cases i with
    | zero => simp at a b; obtain ⟨rfl, rfl⟩ := a; subst b; exact hv
    | succ i => exact f.2.2 i y u z (by simpa using a) (by simpa using b)⟩
theorem FRels.inv_nil {es : List DictEntry} (f : FRels B D h [] es) : es = [] := by simpa using f.1
theorem isStr_str {e : DictEntry} {x y : Str} (hk : ∃ t, e.key = .str x t) : e.key.isStr y = decide (y = x) := by
  obtain ⟨t, ht⟩ := hk
  rw [ht]; show (x == y) = _
  by_cases q : y = x
  · subst q; simp
  · have : ¬ x = y := fun z => q z.symm
    simp [q, this]
theorem getL_str {fs : List (Str × AVal)} : ∀ {es : List DictEntry}, FRels B D h fs es → ∀ y, (match lget fs y with | some v => ∃ u, getL y es = some (some u) ∧ VRel B D h v u | none => getL y es = some none) := by
  induction fs with
  | nil => intro es f y; rw [f.inv_nil]; rfl
  | cons p fs ih =>
    obtain ⟨x, v⟩ := p
    intro es f y
    obtain ⟨e, r, rfl, hk, hv, f'⟩ := f.inv_cons
    have hs := isStr_str (y := y) hk
    have hr : e.refKey = false := by obtain ⟨t, ht⟩ := hk; unfold DictEntry.refKey; rw [ht]
    by_cases q : y = x
    · simp only [lget, if_pos q]
      refine ⟨e.val, ?_, hv⟩
      unfold getL
      rw [List.find?_cons, hs, decide_eq_true q]
    · simp only [lget, if_neg q]
      have e1 : getL y (e :: r) = getL y r := by
        unfold getL
        rw [List.find?_cons, hs, decide_eq_false q, List.any_cons, hr, Bool.false_or]
      rw [e1]; exact ih f' y
theorem putL_str {fs : List (Str × AVal)} {y : Str} {v : AVal} {u : Value} {hsh : Int} {t : Tok} (hv : VRel B D h v u) : ∀ {es : List DictEntry}, FRels B D h fs es → FRels B D h (lset fs y v) (putL y hsh (.str y t) u es) := by
  induction fs with
  | nil => intro es f; rw [f.inv_nil]; exact FRels.cons ⟨t, rfl⟩ hv .nil
  | cons p fs ih =>
    obtain ⟨x, w⟩ := p
    intro es f
    obtain ⟨e, r, rfl, hk, hw, f'⟩ := f.inv_cons
    have hs := isStr_str (y := y) hk
    by_cases q : y = x
    · simp only [lset, if_pos q, putL, hs, decide_eq_true q, if_true]
      exact FRels.cons hk hv f'
    · simp only [lset, if_neg q, putL, hs, decide_eq_false q, Bool.false_eq_true, if_false]
      exact FRels.cons hk hw (ih f')
theorem putL_length {y : Str} {hsh : Int} {k u : Value} : ∀ es : List DictEntry, (putL y hsh k u es).length ≤ es.length + 1
  | [] => by simp [putL]
  | e :: r => by
    unfold putL
    split
    · simp
    · simp; exact putL_length r

/-- what the text's class says of a field's name: nothing -/
structure FieldOf (B : Base) (C : Addr) (name : Str) : Prop where
  get : plainGet B.K C name = true
  dict : hasDictIn B.K C = true
  find : findIn B.K (.ref C) name = some none
  set : findIn B.K (.ref C) "__setattr__" = some (some (.builtin "object.__setattr__"))
  over : plainOver B.K C = true

theorem V1_attr {a : AVal} {C : Addr} {fs : List (Str × AVal)} {name : Str} {v : AVal} {e : Bool} {Q : AVal → AHeap → Prop} (F : FieldOf B C name) (i : IsInst H a C fs) (hv : lget fs name = some v) (q : Q v H) :
    V1 B d (fun o => getAttr o name e) a Q H := fun A X s u R S r => by
  obtain ⟨x, dx, es, n, rfl, e1, e2, f⟩ := inst_of S r i
  have g := getL_str f name
  rw [hv] at g
  obtain ⟨z, g1, g2⟩ := g
  have hh : handedIn z = true := by
    cases g2 <;> rfl
  have I : InstAt s.heap x (instObj C dx) C (some (dictOf es n)) := ⟨e1, rfl, rfl, e2⟩
  exact get_value S.inK I (plainGet_of F.get).1 (findObj_own F.dict F.find rfl (by rw [lookIn_dict]; exact g1)) hh (Ok.tok S g2 q)
theorem W_attr {o : Expr} {name : Str} {pos : Pos} {Q : AVal → AHeap → Prop} (h : W B d sc ρ o (fun a H₁ => V1 B d (fun o => getAttr o name true) a Q H₁) H)
    (he : ∀ env, eval (.Attribute o name pos) env = (do
      let v ← eval o env
      standAt pos.atName
      let r ← holding [v] (getAttr v name true)
      letTemporaryGo o v r
      pure r) := by intro _; with_unfolding_all rfl) : W B d sc ρ (.Attribute o name pos) Q H := fun A env X s R E S L =>
  Attribute_any_ (monoOk (h A env X s R E S L) fun v s₁ ⟨x, H₁, r₁, S₁, t₁, q₁⟩ => monoOk (q₁ A X s₁ v R S₁ r₁) fun _ _ o => o.trans t₁) (he env)

/-! ### methods -/

structure MethOf (B : Base) (C : Addr) (name : Str) (f : Addr) : Prop where
  get : plainGet B.K C name = true
  find : findIn B.K (.ref C) name = some (some (.ref f))
  fn : isFn B.K (.ref f) = true
  keep : keepIn B.K (.ref f) = true

theorem W_methAny {o : Expr} {name : Str} {apos pos : Pos} {args : List Expr} {Q : AVal → AHeap → Prop}
    (h : W B d sc ρ o (fun a H₁ => ∃ f, (∀ A X s v pl, SRel B H₁ X s.heap → VRel B (Held H₁ X) s.heap a v → ∀ Q', Q' (f, [v]) s → wpAny (model B.prog B.w) A (getMethod v name pl) Q' Fa s) ∧
      (∀ h, B.K.In h → ∃ k, (k = Keeper.frame ∨ k = Keeper.machine ∨ k = Keeper.boundFrame) ∧ Looks (model B.prog B.w) h (keeperOf f) k) ∧
      WL B d sc ρ args (fun xs H₂ => VL B d (fun vs => call f vs) (a :: xs) Q H₂) H₁) H)
    (hbase : ∀ env, attributeBase o name env (eval o env) = eval o env) (hline : (apos.endLine == pos.line) = true) (hn : args.length < 30)
    (hp : ∀ env pos, (backTo pos (starEach args env)).any (·.1) = false) : W B d sc ρ (.Call (.Attribute o name apos) args [] pos) Q H := fun A env X s R E S L => by
  show wpAny _ A (attributeBase o name env (eval o env) >>= fun ov => standAt apos.atName >>= fun _ =>
    methodCall o name apos pos env ov (args.length + ([] : List Keyword).length) (backTo pos (starEach args env)) (backToKw pos (keywordEach [] env))) _ _ s
  rw [hbase]
  refine seqOk (h A env X s R E S L) fun v s₁ a H₁ r₁ S₁ t₁ q₁ => wpAny_bind (wpAny_standAt ?_)
  obtain ⟨f, hm, hk, hw⟩ := q₁
  have few : methodCallForm (args.length + ([] : List Keyword).length) (backTo pos (starEach args env)) (backToKw pos (keywordEach [] env)) = true := by
    have h1 := hp env pos
    have h2 : (backTo pos (starEach args env)).all (fun x => !x.1) = true := by
      rw [List.all_eq_true]; intro x hx
      cases q : x.1 with
      | false => rfl
      | true => rw [List.any_eq_true.mpr ⟨x, hx, q⟩] at h1; cases h1
    unfold methodCallForm
    rw [h2]
    have : (backToKw pos (keywordEach [] env)) = [] := rfl
    rw [this]
    simp [hn]
  unfold methodCall
  rw [few]
  refine wpAny_bind (wpAny_holding (hm A X s₁ v _ S₁ r₁ _ ?_))
  refine wpAny_bind ?_
  unfold methodCallPos
  rw [hline]
  refine wpAny_pure ?_
  exact monoOk (callWith_args R E S₁ (L.kept S t₁.2) (VRels.cons r₁ .nil) hk hp hw) fun _ _ o => o.trans t₁

theorem W_meth {o : Expr} {name : Str} {apos pos : Pos} {args : List Expr} {Q : AVal → AHeap → Prop}
    (h : W B d sc ρ o (fun a H₁ => ∃ C fs f, IsInst H₁ a C fs ∧ MethOf B C name f ∧ lget fs name = none ∧ WL B d sc ρ args (fun xs H₂ => CallF B d f (a :: xs) Q H₂) H₁) H)
    (hbase : ∀ env, attributeBase o name env (eval o env) = eval o env := by intro _; with_unfolding_all rfl) (hline : (apos.endLine == pos.line) = true := by decide) (hn : args.length < 30 := by decide)
    (hp : ∀ env pos, (backTo pos (starEach args env)).any (·.1) = false := by intro _ _; rfl) : W B d sc ρ (.Call (.Attribute o name apos) args [] pos) Q H := by
  refine W_methAny ?_ hbase hline hn hp
  refine fun A env X s R E S L => monoOk (h A env X s R E S L) fun v s₁ ⟨a, H₁, r₁, S₁, t₁, C, fs, f, i, M, hf, hw⟩ => ⟨a, H₁, r₁, S₁, t₁, .ref f, ?_, fun h K => keeps_K M.keep h K, hw⟩
  intro A X s v pl S r Q' q'
  obtain ⟨x, dx, es, n, rfl, e1, e2, ff⟩ := inst_of S r i
  have g := getL_str ff name
  rw [hf] at g
  have I : InstAt s.heap x (instObj C dx) C (some (dictOf es n)) := ⟨e1, rfl, rfl, e2⟩
  exact method_fn S.inK I (plainGet_of M.get).1 (plainGet_of M.get).2 M.find (beq_iff_eq.mp M.fn) (by show (lookIn name (dictOf es n)).map _ = _; rw [lookIn_dict, g]; rfl) q'
end

section
variable {B : Base} {H H' : AHeap} {X D D' : Addr → Prop} {h h' : Heap} {env : Env} {ρ ρ' : Loc} {d : Nat} {sc : Scope}

/-! ### dicts of ints -/

noncomputable def dget : List (Int × AVal) → Int → Option AVal
  | [], _ => none
  | (j, v) :: r, k => if k = j then some v else dget r k
noncomputable def dset : List (Int × AVal) → Int → AVal → List (Int × AVal)
  | [], k, v => [(k, v)]
  | (j, u) :: r, k, v => if k = j then (j, v) :: r else (j, u) :: dset r k v

theorem DRels.inv_nil {kws : List (Int × Value)} (f : DRels B D h [] kws) : kws = [] := by simpa using f.1
theorem DRels.nil : DRels B D h [] [] := ⟨rfl, fun i k x k' v a _ => by simp at a⟩
theorem DRels.inv_cons {k : Int} {v : AVal} {kvs : List (Int × AVal)} {kws : List (Int × Value)} (f : DRels B D h ((k, v) :: kvs) kws) : ∃ u r, kws = (k, u) :: r ∧ VRel B D h v u ∧ DRels B D h kvs r := by
  obtain ⟨f1, f2⟩ := f
  cases kws with
  | nil => simp at f1
  | cons p r =>
    obtain ⟨k', u⟩ := p
    simp at f1
    obtain ⟨rfl, f1⟩ := f1
    exact ⟨u, r, rfl, f2 0 k' v k' u rfl rfl, f1, fun i a b c e x y => f2 (i + 1) a b c e (by simpa using x) (by simpa using y)⟩
theorem DRels.cons {k : Int} {v : AVal} {u : Value} {kvs : List (Int × AVal)} {kws : List (Int × Value)} (r : VRel B D h v u) (f : DRels B D h kvs kws) : DRels B D h ((k, v) :: kvs) ((k, u) :: kws) :=
  ⟨by simp [f.1], fun i a b c e x y => by
    cases i with
    | zero => simp at x y; obtain ⟨rfl, rfl⟩ := x; obtain ⟨rfl, rfl⟩ := y; exact r
    | succ i => exact f.2 i a b c e (by simpa using x) (by simpa using y)⟩
theorem DRels.length {kvs : List (Int × AVal)} {kws : List (Int × Value)} (f : DRels B D h kvs kws) : kws.length = kvs.length := by simpa using congrArg List.length f.1
theorem DRels.at_ {kvs : List (Int × AVal)} : ∀ {kws : List (Int × Value)}, DRels B D h kvs kws → ∀ k, match dget kvs k with | some v => ∃ u, valueAt kws k = some u ∧ VRel B D h v u | none => valueAt kws k = none := by
  induction kvs with
  | nil => intro kws f k; rw [f.inv_nil]; rfl
  | cons p kvs ih =>
    obtain ⟨j, v⟩ := p
    intro kws f k
    obtain ⟨u, r, rfl, hv, f'⟩ := f.inv_cons
    by_cases q : k = j
    · subst q; simp only [dget, if_true]; exact ⟨u, by simp [valueAt], hv⟩
    · simp only [dget, if_neg q]
      have : valueAt ((j, u) :: r) k = valueAt r k := by simp [valueAt, List.find?_cons, Ne.symm q]
      rw [this]; exact ih f' k
theorem stored_cons_ne {j k : Int} {u v : Value} {r : List (Int × Value)} (q : ¬ j = k) : stored ((j, u) :: r) k v = (j, u) :: stored r k v := by
  unfold stored
  simp only [List.any_cons, decide_eq_false q, Bool.false_or, List.map_cons, if_neg q]
  split <;> simp
theorem map_same {k : Int} {v : Value} : ∀ {r : List (Int × Value)}, (∀ p ∈ r, p.1 ≠ k) → r.map (fun kv => if kv.1 = k then (kv.1, v) else kv) = r
  | [], _ => rfl
  | p :: r, h => by rw [List.map_cons, if_neg (h p (.head _)), map_same fun q hq => h q (.tail _ hq)]
theorem DRels.stored {kvs : List (Int × AVal)} {k : Int} {v : AVal} {u : Value} (hv : VRel B D h v u) : ∀ {kws : List (Int × Value)}, DRels B D h kvs kws → (kws.map (·.1)).Nodup → DRels B D h (dset kvs k v) (PySem.stored kws k u) := by
  induction kvs with
  | nil => intro kws f _; rw [f.inv_nil]; exact DRels.cons hv .nil
  | cons p kvs ih =>
    obtain ⟨j, w⟩ := p
    intro kws f nd
    obtain ⟨z, r, rfl, hw, f'⟩ := f.inv_cons
    simp only [List.map_cons, List.nodup_cons] at nd
    by_cases q : k = j
    · subst q
      simp only [dset, if_true]
      have : PySem.stored ((k, z) :: r) k u = (k, u) :: r := by
        unfold PySem.stored
        rw [if_pos (by simp)]
        rw [List.map_cons, if_pos rfl, map_same fun p hp e => nd.1 (by rw [← e]; exact List.mem_map_of_mem hp)]
      rw [this]; exact DRels.cons hv f'
    · simp only [dset, if_neg q]
      rw [stored_cons_ne (Ne.symm q)]
      exact DRels.cons hw (ih f' nd.2)
theorem DictOf.nodup {prog : Program} {w : World} {a : Addr} {kws : List (Int × Value)} (x : h.DictOf (intKind prog w) a kws) : (kws.map (·.1)).Nodup := let ⟨_, _, _, _, _, _, _, _, hn⟩ := x; hn

noncomputable def IsDict (H : AHeap) (a : AVal) (kvs : List (Int × AVal)) : Prop := a = .dct kvs ∨ ∃ x, a = .ref x ∧ H x = some (.dict kvs)
noncomputable def IsSeq (H : AHeap) (a : AVal) (xs : List AVal) : Prop := a = .lst xs ∨ ∃ x, a = .ref x ∧ H x = some (.list xs)
theorem dict_of {a : AVal} {v : Value} {kvs : List (Int × AVal)} (S : SRel B H X h) (r : VRel B (Held H X) h a v) (i : IsDict H a kvs) :
    ∃ x kws, v = .ref x ∧ h.DictOf (intKind B.prog B.w) x kws ∧ (x == sysModules) = false ∧ DRels B (Held H X) h kvs kws := by
  rcases i with rfl | ⟨x, rfl, e⟩
  · cases r with
    | dct ha hi hs hk hv => exact ⟨_, _, rfl, ha, hs, hk, hv⟩
  · cases r
    obtain ⟨kws, e1, e2, f⟩ := S.objs _ _ e
    exact ⟨x, kws, rfl, e1, e2, f⟩
theorem seq_of {a : AVal} {v : Value} {xs : List AVal} (S : SRel B H X h) (r : VRel B (Held H X) h a v) (i : IsSeq H a xs) :
    ∃ x vs n, v = .ref x ∧ IsL h x vs.toArray n ∧ VRels B (Held H X) h xs vs := by
  rcases i with rfl | ⟨x, rfl, e⟩
  · cases r with
    | lst ha hi hl hv => exact ⟨_, _, _, rfl, ha, hl, hv⟩
  · cases r
    obtain ⟨vs, n, e1, f⟩ := S.objs _ _ e
    exact ⟨x, vs, n, rfl, e1, f⟩
theorem tup_of {v : Value} {xs : List AVal} (r : VRel B (Held H X) h (.tup xs) v) : ∃ x vs n, v = .ref x ∧ h.get? x = some { cls := .type "tuple", dict := none, data := .seq (List.toArray vs) n, slots := #[] } ∧ VRels B (Held H X) h xs vs := by
  cases r with
  | tup ha hi hl hv => exact ⟨_, _, _, rfl, ha, hl, hv⟩

/-! ### items -/

noncomputable def ItemOf (H : AHeap) (a i x : AVal) : Prop :=
  (∃ kvs k, IsDict H a kvs ∧ i = .int k ∧ dget kvs k = some x) ∨ (∃ xs k, (IsSeq H a xs ∨ a = .tup xs) ∧ i = .int (k : Nat) ∧ k < 2 ^ 20 ∧ xs[k]? = some x)

theorem V2_item {a i x : AVal} {value slice : Expr} {Q : AVal → AHeap → Prop} (it : ItemOf H a i x) (q : Q x H)
    (hs : ∀ o i, subscripted slice false o i = operate [o, i] (getItem o i)) : V2 B d (fun o i => subscriptTail value slice o i) a i Q H := fun A X s v u R S r r' => by
  rcases it with ⟨kvs, k, i, rfl, e⟩ | ⟨xs, k, i, rfl, hk, e⟩
  · cases r'
    obtain ⟨y, kws, rfl, hD, hs', f⟩ := dict_of S r i
    have g := f.at_ k
    rw [e] at g
    obtain ⟨z, g1, g2⟩ := g
    exact tail_any hD.typeIs slot_dict_getitem.lookup (wpAny_getItem_of (intKind_is _ _ _ _) hD.mapOf g1 (Ok.tok S g2 q)) (hs _ _)
  · cases r'
    rcases i with i | rfl
    · obtain ⟨y, vs, n, rfl, hL, f⟩ := seq_of S r i
      obtain ⟨z, g1, g2⟩ := f.get e
      exact tail_any hL.isList.typeIs slot_list_getitem.lookup (wpAny_getItem_list hL.isList (by lia) (by lia) (by simpa using g1) (Ok.now S g2 q)) (hs _ _)
    · obtain ⟨y, vs, n, rfl, hL, f⟩ := tup_of r
      obtain ⟨z, g1, g2⟩ := f.get e
      have hlt : k < vs.length := (List.getElem?_eq_some_iff.mp g1).1
      have hT : IsTup s.heap y vs.toArray := ⟨_, hL, rfl, n, rfl⟩
      refine item_tupleT hT (by lia) (by lia) (j := k) ?_ g1 (Ok.now S g2 q) (hs _ _)
      unfold seqIndex?
      have : ¬ (k : Int) < 0 := by lia
      simp [this, hlt]
inductive ItemQ (H : AHeap) (a b : AVal) (Q : AVal → AHeap → Prop) : Prop
  | mk (x : AVal) (it : ItemOf H a b x) (q : Q x H) : ItemQ H a b Q
theorem ItemQ.tup {xs : List AVal} {k : Nat} {x : AVal} {Q : AVal → AHeap → Prop} (hk : k < 2 ^ 20) (e : xs[k]? = some x) (q : Q x H) : ItemQ H (.tup xs) (.int k) Q := ⟨x, .inr ⟨_, k, .inr rfl, rfl, hk, e⟩, q⟩
noncomputable abbrev SubQ2 (a : AVal) (Q : AVal → AHeap → Prop) : AVal → AHeap → Prop := fun b H₂ => ItemQ H₂ a b Q
noncomputable abbrev SubQ (B : Base) (d : Nat) (sc : Scope) (ρ : Loc) (i : Expr) (Q : AVal → AHeap → Prop) : AVal → AHeap → Prop := fun a H₁ => W B d sc ρ i (SubQ2 a Q) H₁
theorem ItemQ.t0 {x0 : AVal} {xs : List AVal} {Q : AVal → AHeap → Prop} {a : AVal} (h : a = .tup (x0 :: xs)) (q : Q x0 H) : ItemQ H a (.int 0) Q := h ▸ .tup (k := 0) (by decide) rfl q
theorem ItemQ.t1 {x0 x1 : AVal} {xs : List AVal} {Q : AVal → AHeap → Prop} {a : AVal} (h : a = .tup (x0 :: x1 :: xs)) (q : Q x1 H) : ItemQ H a (.int 1) Q := h ▸ .tup (k := 1) (by decide) rfl q
theorem ItemQ.t2 {x0 x1 x2 : AVal} {xs : List AVal} {Q : AVal → AHeap → Prop} {a : AVal} (h : a = .tup (x0 :: x1 :: x2 :: xs)) (q : Q x2 H) : ItemQ H a (.int 2) Q := h ▸ .tup (k := 2) (by decide) rfl q
theorem ItemQ.t3 {x0 x1 x2 x3 : AVal} {xs : List AVal} {Q : AVal → AHeap → Prop} {a : AVal} (h : a = .tup (x0 :: x1 :: x2 :: x3 :: xs)) (q : Q x3 H) : ItemQ H a (.int 3) Q := h ▸ .tup (k := 3) (by decide) rfl q
theorem ItemQ.t4 {x0 x1 x2 x3 x4 : AVal} {xs : List AVal} {Q : AVal → AHeap → Prop} {a : AVal} (h : a = .tup (x0 :: x1 :: x2 :: x3 :: x4 :: xs)) (q : Q x4 H) : ItemQ H a (.int 4) Q := h ▸ .tup (k := 4) (by decide) rfl q
theorem ItemQ.t5 {x0 x1 x2 x3 x4 x5 : AVal} {xs : List AVal} {Q : AVal → AHeap → Prop} {a : AVal} (h : a = .tup (x0 :: x1 :: x2 :: x3 :: x4 :: x5 :: xs)) (q : Q x5 H) : ItemQ H a (.int 5) Q := h ▸ .tup (k := 5) (by decide) rfl q
theorem ItemQ.t6 {x0 x1 x2 x3 x4 x5 x6 : AVal} {xs : List AVal} {Q : AVal → AHeap → Prop} {a : AVal} (h : a = .tup (x0 :: x1 :: x2 :: x3 :: x4 :: x5 :: x6 :: xs)) (q : Q x6 H) : ItemQ H a (.int 6) Q := h ▸ .tup (k := 6) (by decide) rfl q
theorem W_sub {o i : Expr} {pos : Pos} {Q : AVal → AHeap → Prop} (h : W B d sc ρ o (SubQ B d sc ρ i Q) H)
    (hs : ∀ x y, subscripted i false x y = operate [x, y] (getItem x y) := by intro _ _; with_unfolding_all rfl) : W B d sc ρ (.Subscript o i pos) Q H := fun A env X s R E S L =>
  Subscript_ (monoOk (h A env X s R E S L) fun v s₁ ⟨a, H₁, r₁, S₁, t₁, q₁⟩ => monoOk (q₁ A env X s₁ R E S₁ (L.kept S t₁.2)) fun u s₂ ⟨b, H₂, r₂, S₂, t₂, x, it, q₂⟩ =>
    monoOk (V2_item it q₂ hs A X s₂ v u R S₂ (r₁.mono t₂.2.held) r₂) fun _ _ o => (o.trans t₂).trans t₁)

/-! ### plus on lists and tuples, len, in -/

theorem V2_addL {a b : AVal} {xs ys : List AVal} {Q : AVal → AHeap → Prop} (i : IsSeq H a xs) (j : IsSeq H b ys) (q : Q (.lst (xs ++ ys)) H) (hz : xs.length + ys.length ≤ 100000) : V2 B d (binaryOp .Add) a b Q H := fun A X s v u R S r r' => by
  obtain ⟨x, vs, n, rfl, hL, f⟩ := seq_of S r i
  obtain ⟨y, us, m, rfl, hM, g⟩ := seq_of S r' j
  have fg := f.append g
  refine PySem.P.add_list hL hM (Ok.same (.lst (vs := vs ++ us) (n := 0) ?_ S.fresh fg.1 fun i x v a b => (fg.2 i x v a b).mono (KeptD.push _)) (S.push _) (Step.push _ _ _) q) ?_
  · rw [show (vs ++ us).toArray = vs.toArray ++ us.toArray by simp]; exact Heap.get?_push_size _ rfl
  · rw [List.size_toArray, List.size_toArray, f.1, g.1, sizeLine_eq]; lia
theorem V2_addT {xs ys : List AVal} {Q : AVal → AHeap → Prop} (hx : xs ≠ []) (hy : ys ≠ []) (q : Q (.tup (xs ++ ys)) H) (hz : xs.length + ys.length ≤ 100000) : V2 B d (binaryOp .Add) (.tup xs) (.tup ys) Q H := fun A X s v u R S r r' => by
  obtain ⟨x, vs, n, rfl, hL, f⟩ := tup_of r
  obtain ⟨y, us, m, rfl, hM, g⟩ := tup_of r'
  have fg := f.append g
  have nv : ∀ {zs : List AVal} {ws : List Value}, VRels B (Held H X) s.heap zs ws → zs ≠ [] → ¬ ws.toArray.isEmpty = true := fun f hx e => by
    simp at e; subst e; have := f.1; simp at this; exact hx (List.eq_nil_of_length_eq_zero this.symm)
  refine PySem.P.add_tuple hL hM (nv f hx) (nv g hy) (Ok.same (.tup (vs := vs ++ us) (n := 0) ?_ S.fresh fg.1 fun i x v a b => (fg.2 i x v a b).mono (KeptD.push _)) (S.push _) (Step.push _ _ _) q) ?_
  · rw [show (vs ++ us).toArray = vs.toArray ++ us.toArray by simp]; exact Heap.get?_push_size _ rfl
  · rw [List.size_toArray, List.size_toArray, f.1, g.1, sizeLine_eq]; lia
theorem VL_len {a : AVal} {xs : List AVal} {Q : AVal → AHeap → Prop} (i : IsSeq H a xs) (q : Q (.int xs.length) H) (hz : xs.length ≤ 100000) : VL B d (fun vs => call (.builtin "len") vs) [a] Q H := fun A X s vs R S r => by
  obtain ⟨v, vs', rfl, r1, r2⟩ := r.inv_cons
  rw [r2.inv_nil]
  obtain ⟨x, us, n, rfl, hL, f⟩ := seq_of S r1 i
  refine len_list hL.isList (by rw [List.size_toArray, f.1]; lia) ?_
  rw [List.size_toArray, f.1]
  exact Ok.tok S .int q
theorem VL_lenD {a : AVal} {kvs : List (Int × AVal)} {Q : AVal → AHeap → Prop} (i : IsDict H a kvs) (q : Q (.int kvs.length) H) (hz : kvs.length ≤ 100000) : VL B d (fun vs => call (.builtin "len") vs) [a] Q H := fun A X s vs R S r => by
  obtain ⟨v, vs', rfl, r1, r2⟩ := r.inv_cons
  rw [r2.inv_nil]
  obtain ⟨x, kws, rfl, hD, hs, f⟩ := dict_of S r1 i
  obtain ⟨o, ho, hd⟩ := Heap.dictOf_iff.mp hD
  have hfit : kws.length ≤ 16777216 := by rw [f.length]; lia
  have N : News (default : Heap) (s.heap.objs.size) s.heap [(x, o)] := fun p hp => by
    rw [List.mem_singleton.mp hp]
    exact ⟨ho, Nat.ne_of_lt (Heap.lt_size ho), rfl⟩
  refine kda_len N (.head _) hd hs hfit ?_
  rw [f.length]
  exact Ok.tok S .int q
end

noncomputable abbrev intsL (ns : List Int) : List AVal := ns.map AVal.int

section
variable {B : Base} {H H' : AHeap} {X D D' : Addr → Prop} {h h' : Heap} {env : Env} {ρ ρ' : Loc} {d : Nat} {sc : Scope}

theorem intsAre_of : ∀ {ns : List Int} {vs : List Value}, VRels B D h (intsL ns) vs → IntsAre vs ns
  | [], vs, r => by rw [r.inv_nil]; exact .nil
  | n :: ns, vs, r => by
    obtain ⟨v, vs', rfl, r1, r2⟩ := VRels.inv_cons (x := AVal.int n) (xs := intsL ns) r
    cases r1
    exact .cons _ _ (intsAre_of r2)
theorem of_intsAre : ∀ {ns : List Int} {vs : List Value}, IntsAre vs ns → VRels B D h (intsL ns) vs
  | _, _, .nil => .nil
  | _, _, .cons _ _ r => VRels.cons .int (of_intsAre r)

/-! ### comparing -/

theorem V2_eqS {x y : Str} {Q : AVal → AHeap → Prop} (q : Q (.bool (x == y)) H) : V2 B d (compareOp .Eq) (.str x) (.str y) Q H := fun A X s v u R S r r' => by
  cases r; cases r'; exact PyProof.Rows.eq_str (Ok.now S .bool q)
theorem V2_neB {x y : Bool} {Q : AVal → AHeap → Prop} (q : Q (.bool (x != y)) H) : V2 B d (compareOp .NotEq) (.bool x) (.bool y) Q H := fun A X s v u R S r r' => by
  cases r; cases r'; exact ne_bool (Ok.now S .bool q)
theorem V2_neL {a b : AVal} {ns ms : List Int} {Q : AVal → AHeap → Prop} (i : IsSeq H a (intsL ns)) (j : IsSeq H b (intsL ms)) (q : Q (.bool (!decide (ns = ms))) H) : V2 B d (compareOp .NotEq) a b Q H := fun A X s v u R S r r' => by
  obtain ⟨x, vs, n, rfl, hL, f⟩ := seq_of S r i
  obtain ⟨y, us, m, rfl, hM, g⟩ := seq_of S r' j
  exact ne_intsK hL.isList (intsAre_of f) hM.isList (intsAre_of g) (by have := R.2.2; rw [cLine_is]; lia) (Ok.now S .bool q)

/-- plain data: what it reads as -/
noncomputable def Data (n : Nat) (x : AVal) : Prop := ∃ p : PyData, p.canLay0 = true ∧ p.depth ≤ n ∧ ∀ (D : Addr → Prop) (h : Heap) (v : Value), VRel B D h x v → ∃ as, Reads h v p as
end
section
variable {B : Base} {H H' : AHeap} {X D D' : Addr → Prop} {h h' : Heap} {env : Env} {ρ ρ' : Loc} {d : Nat} {sc : Scope}
theorem Data.none {n : Nat} : Data (B := B) n .none := ⟨.none, rfl, Nat.zero_le _, fun _ _ _ r => by cases r; exact ⟨_, .none⟩⟩
theorem Data.bool {n : Nat} {b : Bool} : Data (B := B) n (.bool b) := ⟨.bool b, rfl, Nat.zero_le _, fun _ _ _ r => by cases r; exact ⟨_, .bool _⟩⟩
theorem Data.int {n : Nat} {b : Int} : Data (B := B) n (.int b) := ⟨.int b, rfl, Nat.zero_le _, fun _ _ _ r => by cases r; exact ⟨_, .int _ _⟩⟩
theorem Data.str {n : Nat} {b : Str} (h : PyData.strOk b = true) : Data (B := B) n (.str b) := ⟨.str b, by simpa [PyData.canLay0] using h, Nat.zero_le _, fun _ _ _ r => by cases r; exact ⟨_, .str _ _⟩⟩
theorem Data.all {n : Nat} : ∀ {xs : List AVal}, (∀ x ∈ xs, Data (B := B) n x) → ∃ ps : List PyData, PyData.canLayAll0 ps = true ∧ PyData.depthAll ps ≤ n ∧ ∀ (D : Addr → Prop) (h : Heap) (vs : List Value), VRels B D h xs vs → ∃ as, ReadsAll h vs ps as
  | [], _ => ⟨[], rfl, Nat.zero_le _, fun _ _ _ r => by rw [r.inv_nil]; exact ⟨_, .nil⟩⟩
  | x :: xs, hx => by
    obtain ⟨p, p1, p2, p3⟩ := hx x (.head _)
    obtain ⟨ps, q1, q2, q3⟩ := Data.all fun y hy => hx y (.tail _ hy)
    refine ⟨p :: ps, by simp [PyData.canLayAll0, p1, q1], by simp only [PyData.depthAll]; lia, fun D h vs r => ?_⟩
    obtain ⟨v, vs', rfl, r1, r2⟩ := r.inv_cons
    obtain ⟨as, e1⟩ := p3 D h v r1
    obtain ⟨bs, e2⟩ := q3 D h vs' r2
    exact ⟨_, .cons e1 e2⟩
theorem Data.lst {n : Nat} {xs : List AVal} (hx : ∀ x ∈ xs, Data (B := B) n x) : Data (B := B) (n + 1) (.lst xs) := by
  obtain ⟨ps, q1, q2, q3⟩ := Data.all hx
  refine ⟨.list ps, by simpa [PyData.canLay0] using q1, by simp only [PyData.depth]; lia, fun D h v r => ?_⟩
  cases r with
  | lst ha hi hl hv => obtain ⟨as, e⟩ := q3 D h _ ⟨hl, hv⟩; exact ⟨_, .list ha rfl rfl (by simpa using e)⟩
theorem Data.tup {n : Nat} {xs : List AVal} (hx : ∀ x ∈ xs, Data (B := B) n x) : Data (B := B) (n + 1) (.tup xs) := by
  obtain ⟨ps, q1, q2, q3⟩ := Data.all hx
  refine ⟨.tuple ps, by simpa [PyData.canLay0] using q1, by simp only [PyData.depth]; lia, fun D h v r => ?_⟩
  cases r with
  | tup ha hi hl hv => obtain ⟨as, e⟩ := q3 D h _ ⟨hl, hv⟩; exact ⟨_, .tuple ha rfl rfl (by simpa using e)⟩
theorem Data.ints {n : Nat} {ns : List Int} : Data (B := B) (n + 1) (.lst (intsL ns)) := Data.lst fun x hx => by
  obtain ⟨i, _, rfl⟩ := List.mem_map.mp hx; exact Data.int

theorem Data.eqAt {n : Nat} {x : AVal} {A : Around} {s : Shared} {v u : Value} (dx : Data (B := B) n x) (r : VRel B D s.heap x v) (r' : VRel B D' s.heap x u) (hu : A.units + n < cLine) : SeqAt.EqAt A s v u true := by
  obtain ⟨p, p1, p2, p3⟩ := dx
  obtain ⟨as, e1⟩ := p3 _ _ _ r
  obtain ⟨bs, e2⟩ := p3 _ _ _ r'
  have := SeqAt.eqAt_reads p p A s v u as bs e1 e2 p1 p1 (by rw [Nat.min_self]; lia)
  rwa [SeqAt.eqv_refl p p1] at this

theorem hits_of {A : Around} {s : Shared} {n : Nat} {kvb : List (Int × AVal)} {kb : List (Int × Value)} (fb : DRels B D s.heap kvb kb) (hu : A.units + n < cLine) :
    ∀ {kva : List (Int × AVal)} {ka : List (Int × Value)}, DRels B D s.heap kva ka → (∀ k x, (k, x) ∈ kva → dget kvb k = some x ∧ Data (B := B) n x) → KeqHits A s kb ka true
  | [], ka, fa, _ => by rw [fa.inv_nil]; exact .nil
  | (k, x) :: kva, ka, fa, hx => by
    obtain ⟨u, r, rfl, hv, fa'⟩ := fa.inv_cons
    obtain ⟨g1, g2⟩ := hx k x (.head _)
    have g := fb.at_ k
    rw [g1] at g
    obtain ⟨z, z1, z2⟩ := g
    have := KeqHits.hit (k := k) (v := u) z1 (g2.eqAt hv z2 hu) (hits_of fb hu fa' fun j y hy => hx j y (.tail _ hy))
    simpa using this
/-- two dicts with the same items -/
theorem V2_neD {a b : AVal} {kva kvb : List (Int × AVal)} {n : Nat} {Q : AVal → AHeap → Prop} (i : IsDict H a kva) (j : IsDict H b kvb) (hl : kva.length = kvb.length) (hx : ∀ k x, (k, x) ∈ kva → dget kvb k = some x ∧ Data (B := B) n x) (hn : n ≤ 500)
    (q : Q (.bool false) H) : V2 B d (compareOp .NotEq) a b Q H := fun A X s v u R S r r' => by
  obtain ⟨x, ka, rfl, hD, hs, fa⟩ := dict_of S r i
  obtain ⟨y, kb, rfl, hE, hs', fb⟩ := dict_of S r' j
  have hu : A.in1.units + n < cLine := by have := R.2.2; rw [cLine_is]; show A.units + 1 + n < 9900; lia
  refine keq_ne hs hs' hD hE R.units (fun _ => hits_of fb hu fa hx) ?_
  rw [fa.length, fb.length, hl]
  simpa using Ok.now S .bool q
theorem V2_eqD {a b : AVal} {kva kvb : List (Int × AVal)} {n : Nat} {Q : AVal → AHeap → Prop} (i : IsDict H a kva) (j : IsDict H b kvb) (hl : kva.length = kvb.length) (hx : ∀ k x, (k, x) ∈ kva → dget kvb k = some x ∧ Data (B := B) n x) (hn : n ≤ 500)
    (q : Q (.bool true) H) : V2 B d (compareOp .Eq) a b Q H := fun A X s v u R S r r' => by
  obtain ⟨x, ka, rfl, hD, hs, fa⟩ := dict_of S r i
  obtain ⟨y, kb, rfl, hE, hs', fb⟩ := dict_of S r' j
  have hu : A.in1.units + n < cLine := by have := R.2.2; rw [cLine_is]; show A.units + 1 + n < 9900; lia
  refine keq_eq hs hs' hD hE R.units (fun _ => hits_of fb hu fa hx) ?_
  rw [fa.length, fb.length, hl]
  simpa using Ok.now S .bool q

theorem V2_inD {b : AVal} {k : Int} {kvs : List (Int × AVal)} {Q : AVal → AHeap → Prop} (i : IsDict H b kvs) (q : Q (.bool (dget kvs k).isSome) H) : V2 B d (compareOp .In) (.int k) b Q H := fun A X s v u R S r r' => by
  cases r
  obtain ⟨x, kws, rfl, hD, hs, f⟩ := dict_of S r' i
  have g := f.at_ k
  have e : (valueAt kws k).isSome = (dget kvs k).isSome := by
    cases q : dget kvs k with
    | none => rw [q] at g; rw [g]; rfl
    | some y => rw [q] at g; obtain ⟨z, z1, _⟩ := g; rw [z1]; rfl
  exact wpAny_in_of (intKind_is _ _ _ _) hs hD.mapOf (by rw [e]; exact Ok.tok S .bool q)
theorem V2_notInD {b : AVal} {k : Int} {kvs : List (Int × AVal)} {Q : AVal → AHeap → Prop} (i : IsDict H b kvs) (q : Q (.bool (!(dget kvs k).isSome)) H) : V2 B d (compareOp .NotIn) (.int k) b Q H := fun A X s v u R S r r' => by
  cases r
  obtain ⟨x, kws, rfl, hD, hs, f⟩ := dict_of S r' i
  have g := f.at_ k
  have e : (valueAt kws k).isSome = (dget kvs k).isSome := by
    cases q : dget kvs k with
    | none => rw [q] at g; rw [g]; rfl
    | some y => rw [q] at g; obtain ⟨z, z1, _⟩ := g; rw [z1]; rfl
  exact wpAny_notIn_of (intKind_is _ _ _ _) hs hD.mapOf (by rw [e]; exact Ok.tok S .bool q)
noncomputable def isI (k : Int) : Value → Bool
  | .int j _ => j == k
  | _ => false
theorem any_isI {k : Int} {vs : List Value} {ns : List Int} (I : IntsAre vs ns) : vs.any (isI k) = decide (k ∈ ns) := by
  induction I with
  | nil => rfl
  | cons n t _ ih =>
    rw [List.any_cons, ih]
    show ((n == k) || _) = _
    by_cases e : n = k
    · subst e; simp
    · have : ¬ k = n := fun z => e z.symm
      simp [e, this]
theorem mem_int {vs : List Value} {ns : List Int} (I : IntsAre vs ns) : ∀ y ∈ vs, ∃ j t, y = Value.int j t := by
  induction I with
  | nil => intro y hy; cases hy
  | cons n t _ ih => intro y hy; rcases List.mem_cons.mp hy with rfl | hy; exact ⟨_, _, rfl⟩; exact ih y hy
theorem V2_inL {b : AVal} {k : Int} {ns : List Int} {Q : AVal → AHeap → Prop} (i : IsSeq H b (intsL ns)) (q : Q (.bool (decide (k ∈ ns))) H) : V2 B d (compareOp .In) (.int k) b Q H := fun A X s v u R S r r' => by
  cases r
  obtain ⟨x, vs, n, rfl, hL, f⟩ := seq_of S r' i
  have I := intsAre_of f
  refine PySem.SeqInW.in_listW (isI k) (fun y hy => ?_) hL.isList ?_
  · obtain ⟨j, t, rfl⟩ := mem_int I y (by simpa using hy)
    exact MeetsSeq.EqGives.int _ _ _ _
  · have : vs.toArray.any (isI k) = decide (k ∈ ns) := by rw [List.any_toArray]; exact any_isI I
    rw [this]; exact Ok.now S .bool q
end

section
variable {B : Base} {H H' : AHeap} {X D D' : Addr → Prop} {h h' : Heap} {env : Env} {ρ ρ' : Loc} {d : Nat} {sc : Scope}

/-! ### lists that change -/

theorem put_list {s : Shared} {a : Addr} {xs xs' : List AVal} {vs vs' : List Value} {n : Nat} {f : Array Value → Array Value} (S : SRel B H X s.heap) (e : H a = some (.list xs)) (hL : IsL s.heap a vs.toArray n)
    (hf : f vs.toArray = vs'.toArray) (hr : VRels B (Held H X) s.heap xs' vs') :
    SRel B (upd H a (some (.list xs'))) X (s.heap.update a (Obj.mapSeq f)) ∧ Kept H s.heap (upd H a (some (.list xs'))) (s.heap.update a (Obj.mapSeq f)) := by
  refine S.put e (fun _ q => by cases q) (.inl rfl) (Heap.SameBut.update ..) (fun o q => ?_) fun kd => ⟨vs', (if (f vs.toArray).size == vs.toArray.size then n else n + 1), ?_, hr.mono kd⟩
  · exact ⟨_, hL.update f⟩
  · have := hL.update f
    rw [hf] at this ⊢
    exact this
theorem list_at (S : SRel B H X h) {a : Addr} {xs : List AVal} (e : H a = some (.list xs)) : ∃ vs n, IsL h a vs.toArray n ∧ VRels B (Held H X) h xs vs := by
  obtain ⟨vs, n, e1, f⟩ := S.objs _ _ e; exact ⟨vs, n, e1, f⟩
theorem dict_at (S : SRel B H X h) {a : Addr} {xs : List (Int × AVal)} (e : H a = some (.dict xs)) : ∃ kws, h.DictOf (intKind B.prog B.w) a kws ∧ (a == sysModules) = false ∧ DRels B (Held H X) h xs kws := S.objs _ _ e

theorem VL_append {a : Addr} {x : AVal} {xs : List AVal} {Q : AVal → AHeap → Prop} (e : H a = some (.list xs)) (q : Q .none (upd H a (some (.list (xs ++ [x]))))) (hz : xs.length ≤ 100000) :
    VL B d (fun vs => call (.builtin "list.append") vs) [.ref a, x] Q H := fun A X s vs R S r => by
  obtain ⟨v, vs', rfl, r1, r2⟩ := r.inv_cons
  obtain ⟨u, vs'', rfl, r3, r4⟩ := r2.inv_cons
  rw [r4.inv_nil]
  cases r1
  obtain ⟨ws, n, hL, f⟩ := list_at S e
  obtain ⟨S', k⟩ := put_list (xs' := xs ++ [x]) (vs' := ws ++ [u]) (f := fun y => y.push u) S e hL (by simp) (f.append (VRels.cons r3 .nil))
  exact call_meets PySem.F.slot_list_append ⟨_, hL, rfl⟩ PySem.F.entry_list_append (PySem.F.args_list_append_2 _ _) (list_append a ws.toArray n u (by rw [List.size_toArray, f.1, sizeLine_eq]; lia)) ⟨hL, .none, _, .none, S', ⟨⟨_, _, rfl⟩, k⟩, q⟩
theorem VL_pop {a : Addr} {x : AVal} {xs : List AVal} {Q : AVal → AHeap → Prop} (e : H a = some (.list (xs ++ [x]))) (q : Q x (upd H a (some (.list xs)))) (hz : xs.length ≤ 100000) :
    VL B d (fun vs => call (.builtin "list.pop") vs) [.ref a] Q H := fun A X s vs R S r => by
  obtain ⟨v, vs', rfl, r1, r2⟩ := r.inv_cons
  rw [r2.inv_nil]
  cases r1
  obtain ⟨ws, n, hL, f⟩ := list_at S e
  obtain ⟨us, y, rfl⟩ : ∃ us y, ws = us ++ [y] := by
    have hl : ws.length = xs.length + 1 := by rw [f.1]; simp
    exact ⟨ws.dropLast, ws.getLast (by intro z; subst z; simp at hl), (List.dropLast_concat_getLast _).symm⟩
  have hl : us.length = xs.length := by have := f.1; simpa using this
  have rx : VRel B (Held H X) s.heap x y := f.2 xs.length x y (by simp) (by rw [← hl]; simp)
  have rs : VRels B (Held H X) s.heap xs us := ⟨hl, fun i z w a b => f.2 i z w (by rw [List.getElem?_append_left (List.getElem?_eq_some_iff.mp a).1]; exact a) (by rw [List.getElem?_append_left (List.getElem?_eq_some_iff.mp b).1]; exact b)⟩
  have hs : (us ++ [y]).toArray.size - 1 = us.length := by simp
  obtain ⟨S', k⟩ := put_list (xs' := xs) (vs' := us) (f := fun z => z.eraseIdxIfInBounds ((us ++ [y]).toArray.size - 1)) S e hL (by
    rw [hs, Array.eraseIdxIfInBounds, dif_pos (by simp)]
    simp [List.eraseIdx_append_of_length_le]) rs
  have hd : Held (upd H a (some (.list xs))) X = Held H X := funext fun b => propext (by
    unfold Held; by_cases hb : b = a
    · subst hb; simp [upd_self, e]
    · simp [upd_ne _ _ hb])
  refine call_meets PySem.F.slot_list_pop ⟨_, hL, rfl⟩ PySem.F.entry_list_pop (PySem.F.args_list_pop_1 _) (MeetsSeq.list_pop_last a (us ++ [y]).toArray n y (by rw [hs]; simp) (by rw [List.size_toArray, List.length_append, hl, sizeLine_eq]; simp; lia)) ⟨hL, x, _, ?_, S', ⟨⟨_, _, rfl⟩, k⟩, q⟩
  exact rx.mono k.held
theorem VL_extend {a : Addr} {b : AVal} {xs ys : List AVal} {Q : AVal → AHeap → Prop} (e : H a = some (.list xs)) (j : IsSeq H b ys) (q : Q .none (upd H a (some (.list (xs ++ ys))))) (hz : xs.length + ys.length ≤ 100000) :
    VL B d (fun vs => call (.builtin "list.extend") vs) [.ref a, b] Q H := fun A X s vs R S r => by
  obtain ⟨v, vs', rfl, r1, r2⟩ := r.inv_cons
  obtain ⟨u, vs'', rfl, r3, r4⟩ := r2.inv_cons
  rw [r4.inv_nil]
  cases r1
  obtain ⟨ws, n, hL, f⟩ := list_at S e
  obtain ⟨y, us, m, rfl, hM, g⟩ := seq_of S r3 j
  obtain ⟨S', k⟩ := put_list (xs' := xs ++ ys) (vs' := ws ++ us) (f := fun z => z ++ us.toArray) S e hL (by simp) (f.append g)
  have h1 : ws.toArray.size + us.toArray.size ≤ 100000 := by rw [List.size_toArray, List.size_toArray, f.1, g.1]; exact hz
  have h2 : Builtin.List.listTooLong (ws.toArray.size + us.toArray.size) = false := by unfold Builtin.List.listTooLong; rw [sizeLine_eq]; exact decide_eq_false (by lia)
  exact call_meets PySem.F.slot_list_extend ⟨_, hL, rfl⟩ PySem.F.entry_list_extend (PySem.F.args_list_extend_2 _ _) (AutoSeq1.list_extend_list_list_0 a ws.toArray n y us.toArray m (by rw [h2]; simp) (by rw [sizeLine_eq]; lia) (by rw [sizeLine_eq]; lia))
    ⟨hL, hM, .none, _, .none, S', ⟨⟨_, _, rfl⟩, k⟩, q⟩

theorem setItem_exact {prog : Program} {w : World} {A : Around} {E : Value → Shared → Prop} {s : Shared} {l : Addr} {items : Array Value} {n : Nat} {k : Int} {t : Tok} {v : Value} {Q : Unit → Shared → Prop} (hL : IsL s.heap l items n)
    (h0 : 0 ≤ k) (hfit : k < 2 ^ 63) (hn : k < items.size) (hQ : Q () { s with heap := s.heap.update l (Obj.mapSeq (·.setIfInBounds k.toNat v)) }) :
    wpAny (model prog w) A (setItem (.ref l) (.int k t) v) Q E s := by
  have hl := hL.isList
  unfold setItem
  try with_reducible refine wpAny_holding ?_
  first | refine wpAny_bind (wpAny_pure ?_) | skip
  refine wpAny_bind (wpAny_sequenceKey hl.typeIs (by decide) ?_)
  refine wpAny_bind (wpAny_callSpecial?_slot (name := Str.ofString "__setitem__") hl.typeIs slot_list_setitem
    (wpAny_call_entry slot_list_setitem hl.typeIs entry_list_setitem ?_ (args_list_setitem _ _ _)))
  show wpAny _ _ (Builtin.List.listSubscript? (.int k t) >>= _) _ _ s
  refine wpAny_bind (wpAny_listSubscript_int (fitsIndex_of h0 hfit) ?_)
  clear hfit
  obtain ⟨j, rfl⟩ := Int.eq_ofNat_of_zero_le h0
  have hj : j < items.size := by lia
  have hx' : items[j]? = some items[j] := Array.getElem?_eq_getElem hj
  show wpAny _ _ ((seqItemAt l j >>= fun r => pure (r.map (j, ·))) >>= _) _ _ s
  refine wpAny_bind (wpAny_bind (wpAny_seqItemAt hL rfl (wpAny_pure ?_)))
  rw [hx']
  show wpAny _ _ (setSeqItemAt l j v >>= _) _ _ s
  refine wpAny_bind (wpAny_setSeqItemAt hL rfl ?_)
  first
    | exact wpAny_bind (wpAny_pure (wpAny_pure ⟨.none, rfl, wpAny_pure hQ⟩))
    | exact wpAny_pure ⟨.none, rfl, wpAny_pure hQ⟩
theorem U3_setL {a : Addr} {i : Nat} {x : AVal} {xs : List AVal} {Q : AHeap → Prop} (e : H a = some (.list xs)) (hi : i < xs.length) (hz : i < 2 ^ 20) (q : Q (upd H a (some (.list (xs.set i x))))) :
    U3 B d (fun o i v => setItem o i v) (.ref a) (.int (i : Nat)) x Q H := fun A X s v u z R S r r' r'' => by
  cases r; cases r'
  rename_i t
  obtain ⟨ws, n, hL, f⟩ := list_at S e
  have hlt : i < ws.length := by rw [f.1]; exact hi
  have rs : VRels B (Held H X) s.heap (xs.set i x) (ws.set i z) := ⟨by simp [f.1], fun j y w a b => by
    by_cases hj : j = i
    · subst hj
      rw [List.getElem?_set_self hi] at a
      rw [List.getElem?_set_self hlt] at b
      cases a; cases b; exact r''
    · rw [List.getElem?_set_ne (Ne.symm hj)] at a b; exact f.2 j y w a b⟩
  obtain ⟨S', k⟩ := put_list (xs' := xs.set i x) (vs' := ws.set i z) (f := fun y => y.setIfInBounds i z) S e hL (by simp) rs
  exact setItem_exact hL (by lia) (by lia) (by rw [List.size_toArray]; lia) ⟨_, S', ⟨⟨_, _, rfl⟩, k⟩, q⟩

/-! ### dicts that change -/

theorem put_dict {s : Shared} {a : Addr} {kvs kvs' : List (Int × AVal)} {kws' : List (Int × Value)} {h' : Heap} (S : SRel B H X s.heap) (e : H a = some (.dict kvs)) (hs : Heap.SameBut a s.heap h') (hD : h'.DictOf (intKind B.prog B.w) a kws')
    (hr : DRels B (Held H X) s.heap kvs' kws') : SRel B (upd H a (some (.dict kvs'))) X h' ∧ Kept H s.heap (upd H a (some (.dict kvs'))) h' := by
  refine S.put e (fun _ q => by cases q) (.inl rfl) hs (fun o q => DictOf.at_ hD) fun kd => ⟨kws', hD, ?_, hr.mono kd⟩
  obtain ⟨kws, _, e2, _⟩ := S.objs _ _ e
  exact e2
theorem U3_setD {a : Addr} {k : Int} {x : AVal} {kvs : List (Int × AVal)} {Q : AHeap → Prop} (e : H a = some (.dict kvs)) (hz : kvs.length ≤ 100000) (q : Q (upd H a (some (.dict (dset kvs k x))))) :
    U3 B d (fun o i v => setItem o i v) (.ref a) (.int k) x Q H := fun A X s v u z R S r r' r'' => by
  cases r; cases r'
  obtain ⟨kws, hD, hs, f⟩ := dict_at S e
  refine wpAny_setItem_pairs (intKind_is _ _ _ _) hD (fun h' hD' hs' => ?_) (by rw [f.length, sizeLine_eq]; lia)
  obtain ⟨S', kk⟩ := put_dict S e hs' hD' (f.stored r'' (DictOf.nodup hD))
  exact ⟨_, S', ⟨⟨_, _, rfl⟩, kk⟩, q⟩
theorem VL_get2 {a : AVal} {k : Int} {x : AVal} {kvs : List (Int × AVal)} {Q : AVal → AHeap → Prop} (i : IsDict H a kvs) (q : Q ((dget kvs k).getD x) H) : VL B d (fun vs => call (.builtin "dict.get") vs) [a, .int k, x] Q H := fun A X s vs R S r => by
  obtain ⟨v, vs', rfl, r1, r2⟩ := r.inv_cons
  obtain ⟨u, vs'', rfl, r3, r4⟩ := r2.inv_cons
  obtain ⟨z, vs3, rfl, r5, r6⟩ := r4.inv_cons
  rw [r6.inv_nil]
  cases r3
  obtain ⟨y, kws, rfl, hD, hs, f⟩ := dict_of S r1 i
  have g := f.at_ k
  refine call_meetsIn PySem.F.slot_dict_get hD.typeIs PySem.F.entry_dict_get (PySem.F.args_dict_get_3 _ _ _) (meets_dict_get_default (intKind B.prog B.w) y (intKind_is _ _ _ _) hs z) ⟨_, hD.mapOf, ?_⟩
  cases qq : dget kvs k with
  | none => rw [qq] at g q; rw [g]; exact Ok.tok S r5 q
  | some y => rw [qq] at g q; obtain ⟨w, w1, w2⟩ := g; rw [w1]; exact Ok.tok S w2 q
theorem VL_setdefault {a : Addr} {k : Int} {x : AVal} {kvs : List (Int × AVal)} {Q : AVal → AHeap → Prop} (e : H a = some (.dict kvs)) (hz : kvs.length ≤ 100000)
    (q : match dget kvs k with | some y => Q y H | none => Q x (upd H a (some (.dict (dset kvs k x))))) : VL B d (fun vs => call (.builtin "dict.setdefault") vs) [.ref a, .int k, x] Q H := fun A X s vs R S r => by
  obtain ⟨v, vs', rfl, r1, r2⟩ := r.inv_cons
  obtain ⟨u, vs'', rfl, r3, r4⟩ := r2.inv_cons
  obtain ⟨z, vs3, rfl, r5, r6⟩ := r4.inv_cons
  rw [r6.inv_nil]
  cases r1; cases r3
  obtain ⟨kws, hD, hs, f⟩ := dict_at S e
  have g := f.at_ k
  refine call_meetsIn PySem.F.slot_dict_setdefault hD.typeIs PySem.F.entry_dict_setdefault (PySem.F.args_dict_setdefault_3 _ _ _) (kt_meets_setdefault (intKind B.prog B.w) a (intKind_is _ _ _ _) hs z)
    ⟨kws, hD, by rw [f.length, sizeLine_eq]; lia, fun w hw => ?_, fun hn h' hD' hs' => ?_⟩
  · cases qq : dget kvs k with
    | none => rw [qq] at g; rw [hw] at g; cases g
    | some y => rw [qq] at g q; obtain ⟨w', w1, w2⟩ := g; rw [hw] at w1; cases w1; exact Ok.tok S w2 q
  · cases qq : dget kvs k with
    | some y => rw [qq] at g; obtain ⟨w', w1, w2⟩ := g; rw [hn] at w1; cases w1
    | none =>
      rw [qq] at q
      obtain ⟨S', kk⟩ := put_dict S e hs' hD' (f.stored r5 (DictOf.nodup hD))
      exact ⟨x, _, r5.mono kk.held, S', ⟨⟨_, _, rfl⟩, kk⟩, q⟩

/-! ### a field that is stored -/

theorem getL_isSome {fs : List (Str × AVal)} {es : List DictEntry} (f : FRels B D h fs es) (y : Str) : (getL y es).isSome = true := by
  have := getL_str f y
  split at this
  · obtain ⟨u, e, _⟩ := this; rw [e]; rfl
  · rw [this]; rfl
theorem osa_put {prog : Program} {w : World} {A : Around} {R : Result → Shared → Prop} {s : Shared} {K : Frag} {x C dx : Addr} {name : Str} {tk : Tok} {v : Value} {es : List DictEntry} {n : Nat} (X : K.In s.heap) (e1 : s.heap.get? x = some (instObj C dx)) (e2 : s.heap.get? dx = some (dictOf es n))
    (hp : plainOver K C = true) (ht : takerIn K C name = some none) (hh : (clsIn K C).any (·.hasDict) = true) (hr : es.any (·.refKey) = false) (hz : es.length ≤ 1000)
    (h : R (.ok (.ret .none)) { s with heap := s.heap.update dx (Obj.putName name (PyData.keyHash w.params name) (.str name s.toks) v), toks := s.toks + 1 }) :
    codeAny (model prog w) A (.call (.builtin "object.__setattr__") ⟨[.ref x, .str name tk, v], []⟩) R s := by
  have I : InstAt s.heap x (instObj C dx) C (some (dictOf es n)) := ⟨e1, rfl, rfl, e2⟩
  refine osa_open X I hp ht fun b => ?_
  obtain ⟨cd, hc, hd'⟩ := any_some hh
  have ep : Obj.putName name (PyData.keyHash w.params name) (.str name s.toks) v (dictOf es n) = dictOf (putL name (PyData.keyHash w.params name) (.str name s.toks) v es) (putN name es n) := putName_dict ..
  refine wpAny_bind (wpAny_pure (wpAny_bind (wpAny_bind (wpAny_loadPart e1 (wpAny_bind ((looks_clsIn X hc).here ?_))))))
  rw [hd']
  refine wpAny_pure (a := some dx) (wpAny_bind (wpAny_pure (wpAny_bind ?_)))
  unfold nsSet
  refine wpAny_bind (wpAny_bind (wpAny_askSetting (wpAny_pure (wpAny_bind (wpAny_mkText (wpAny_bind (wpAny_loadPart e2 ?_)))))))
  have c : (!es.toArray.any (·.key.isStr name) && es.toArray.any (·.refKey)) = false := by
    rw [List.any_toArray, List.any_toArray, hr, Bool.and_false]
  dsimp only
  rw [aRefKeyMayBeTheName_at, c]
  refine wpAny_updatePart e2 ?_
  have D' : (s.heap.update dx (Obj.putName name (PyData.keyHash w.params name) (.str name s.toks) v)).get? dx = some (dictOf (putL name (PyData.keyHash w.params name) (.str name s.toks) v es) (putN name es n)) := by
    rw [Heap.get?_update_self _ e2 (by rw [ep]; rfl), ep]
  refine wpAny_bind (wpAny_lookBehind D' (by
    exact pastItsLine_dict (by rw [List.size_toArray, sizeLine_eq]; have := putL_length (y := name) (hsh := PyData.keyHash w.params name) (k := .str name s.toks) (u := v) es; lia)) ?_)
  exact wpAny_pure h
theorem U2_setattr {a : Addr} {C dx : Addr} {fs : List (Str × AVal)} {name : Str} {x : AVal} {Q : AHeap → Prop} (F : FieldOf B C name) (e : H a = some (.inst C dx fs)) (hz : fs.length ≤ 50) (q : Q (upd H a (some (.inst C dx (lset fs name x))))) :
    U2 B d (fun o v => setAttr o name v) (.ref a) x Q H := fun A X s v u R S r r' => by
  cases r
  obtain ⟨es, n, e1, e2, e3, f⟩ := S.objs _ _ e
  have I : InstAt s.heap a (instObj C dx) C (some (dictOf es n)) := ⟨e1, rfl, rfl, e2⟩
  have hax : dx ≠ a := fun z => by rw [z, e] at e3; cases e3
  have ht : takerIn B.K C name = some none := by unfold takerIn; rw [F.find]; rfl
  have hr : es.any (·.refKey) = false := by
    rw [List.any_eq_false]; intro en hen
    obtain ⟨i, hi⟩ := List.getElem?_of_mem hen
    have hlt : i < fs.length := by rw [← f.1]; exact (List.getElem?_eq_some_iff.mp hi).1
    obtain ⟨t, ht⟩ := f.2.1 i fs[i].1 fs[i].2 en (by simp [hlt]) hi
    unfold DictEntry.refKey; rw [ht]; simp
  have ep : Obj.putName name (PyData.keyHash B.w.params name) (.str name (s.toks + 1)) u (dictOf es n) = dictOf (putL name (PyData.keyHash B.w.params name) (.str name (s.toks + 1)) u es) (putN name es n) := putName_dict ..
  obtain ⟨S', kk⟩ := S.put (h' := s.heap.update dx (Obj.putName name (PyData.keyHash B.w.params name) (.str name (s.toks + 1)) u)) (c := dx) (ob' := .inst C dx (lset fs name x)) e (fun _ q => by cases q) (.inr e3) (Heap.SameBut.update ..)
    (fun o q => ⟨_, Heap.get?_update_self _ e2 (by rw [ep]; rfl)⟩) fun kd => ⟨putL name (PyData.keyHash B.w.params name) (.str name (s.toks + 1)) u es, putN name es n,
      (Heap.get?_update_other _ _ hax).trans e1, by rw [Heap.get?_update_self _ e2 (by rw [ep]; rfl), ep], by rw [upd_ne _ _ hax]; exact e3, (putL_str r' f).mono kd⟩
  exact set_plain S.inK I F.set (osa_put (s := { s with toks := s.toks + 1 }) S.inK e1 e2 F.over ht F.dict hr (by rw [f.1]; lia) ⟨_, S', ⟨⟨_, _, rfl⟩, kk⟩, q⟩)
end

/-! ## statements -/

inductive Fl where
  | next
  | ret (x : AVal)

inductive FRel (B : Base) (D : Addr → Prop) (h : Heap) : Fl → Flow → Prop where
  | next : FRel B D h .next .next
  | ret {x : AVal} {v : Value} (r : VRel B D h x v) : FRel B D h (.ret x) (.ret v)

noncomputable def KeptE (env : Env) (H : AHeap) (h : Heap) (H' : AHeap) (h' : Heap) : Prop := ∀ a o, h.get? a = some o → H a = none → ¬ Own env a → h'.get? a = some o ∧ H' a = none
noncomputable def StepE (env : Env) (H : AHeap) (s : Shared) (H' : AHeap) (s' : Shared) : Prop := SameS s s' ∧ KeptE env H s.heap H' s'.heap
theorem StepE.trans {env : Env} {H H' H'' : AHeap} {s s' s'' : Shared} (x : StepE env H s H' s') (y : StepE env H' s' H'' s'') : StepE env H s H'' s'' := by
  obtain ⟨⟨h', tk, rfl⟩, k⟩ := x
  obtain ⟨⟨h'', tk', rfl⟩, k'⟩ := y
  exact ⟨⟨h'', tk', rfl⟩, fun a o e i n => let ⟨e', i'⟩ := k a o e i n; k' a o e' i' n⟩
theorem StepE.of {env : Env} {H H' : AHeap} {s s' : Shared} (x : Step H s H' s') : StepE env H s H' s' := ⟨x.1, fun a o e i _ => x.2 a o e i⟩
theorem StepE.refl (env : Env) (H : AHeap) (s : Shared) : StepE env H s H s := .of (Step.refl _ _)

inductive OkS (B : Base) (H : AHeap) (X : Addr → Prop) (s : Shared) (env : Env) (Q : Fl → Loc → AHeap → Prop) (f : Flow) (s' : Shared) : Prop
  | mk (fl : Fl) (ρ' : Loc) (H' : AHeap) (r : FRel B (Held H' X) s'.heap fl f) (S : SRel B H' X s'.heap) (L : LRel B (Held H' X) X s'.heap env ρ') (t : StepE env H s H' s') (q : Q fl ρ' H') : OkS B H X s env Q f s'
inductive OkA (B : Base) (H : AHeap) (X : Addr → Prop) (s : Shared) (env : Env) (Q : Loc → AHeap → Prop) (s' : Shared) : Prop
  | mk (ρ' : Loc) (H' : AHeap) (S : SRel B H' X s'.heap) (L : LRel B (Held H' X) X s'.heap env ρ') (t : StepE env H s H' s') (q : Q ρ' H') : OkA B H X s env Q s'

section
variable {B : Base} {H H' : AHeap} {X D D' : Addr → Prop} {h h' : Heap} {env : Env} {ρ ρ' : Loc} {d : Nat} {sc : Scope}

theorem StepE.keptD {s s' : Shared} (t : StepE env H s H' s') (ho : ∀ a, Own env a → X a) : KeptD (Held H X) s.heap (Held H' X) s'.heap := fun a o e i =>
  have k := t.2 a o e (Held.none i) fun q => i (.inr (ho a q))
  ⟨k.1, fun q => q.elim (fun z => z k.2) fun z => i (.inr z)⟩
theorem OkS.trans {s s₁ : Shared} {Q : Fl → Loc → AHeap → Prop} {v : Flow} {s' : Shared} (st : StepE env H s H' s₁) (o : OkS B H' X s₁ env Q v s') : OkS B H X s env Q v s' :=
  let ⟨x, ρ, H'', r, S, L, t, q⟩ := o; ⟨x, ρ, H'', r, S, L, st.trans t, q⟩
theorem OkA.trans {s s₁ : Shared} {Q : Loc → AHeap → Prop} {s' : Shared} (st : StepE env H s H' s₁) (o : OkA B H' X s₁ env Q s') : OkA B H X s env Q s' :=
  let ⟨ρ, H'', S, L, t, q⟩ := o; ⟨ρ, H'', S, L, st.trans t, q⟩

noncomputable def W1 (B : Base) (d : Nat) (sc : Scope) (ρ : Loc) (st : Stmt) (Q : Fl → Loc → AHeap → Prop) (H : AHeap) : Prop :=
  ∀ (A : Around) (env : Env) (X : Addr → Prop) (s : Shared), Room d A → EnvOK sc env → SRel B H X s.heap → LRel B (Held H X) X s.heap env ρ →
    wpAny (model B.prog B.w) A (exec st env) (OkS B H X s env Q) Fa s
noncomputable def WS (B : Base) (d : Nat) (sc : Scope) (ρ : Loc) (ss : List Stmt) (Q : Fl → Loc → AHeap → Prop) (H : AHeap) : Prop :=
  ∀ (A : Around) (env : Env) (X : Addr → Prop) (s : Shared), Room d A → EnvOK sc env → SRel B H X s.heap → LRel B (Held H X) X s.heap env ρ →
    wpAny (model B.prog B.w) A (execs ss env) (OkS B H X s env Q) Fa s
/-- an assignment of a value to a target -/
noncomputable def WA (B : Base) (d : Nat) (sc : Scope) (ρ : Loc) (t : Expr) (x : AVal) (Q : Loc → AHeap → Prop) (H : AHeap) : Prop :=
  ∀ (A : Around) (env : Env) (X : Addr → Prop) (s : Shared) (v : Value), Room d A → EnvOK sc env → SRel B H X s.heap → LRel B (Held H X) X s.heap env ρ → VRel B (Held H X) s.heap x v →
    wpAny (model B.prog B.w) A (assign t env v) (fun _ => OkA B H X s env Q) Fa s
noncomputable def WAs (B : Base) (d : Nat) (sc : Scope) (ρ : Loc) (ts : List Expr) (xs : List AVal) (Q : Loc → AHeap → Prop) (H : AHeap) : Prop :=
  ∀ (A : Around) (env : Env) (X : Addr → Prop) (s : Shared) (vs : List Value), Room d A → EnvOK sc env → SRel B H X s.heap → LRel B (Held H X) X s.heap env ρ → VRels B (Held H X) s.heap xs vs →
    wpAny (model B.prog B.w) A (assignInOrder ((assignEach ts env).map (·.2)) vs) (fun _ => OkA B H X s env Q) Fa s

noncomputable abbrev RetA (ρ : Loc) (Q : Fl → Loc → AHeap → Prop) : AVal → AHeap → Prop := fun x H₁ => Q (.ret x) ρ H₁
noncomputable abbrev ExprQ (ρ : Loc) (Q : Fl → Loc → AHeap → Prop) : AVal → AHeap → Prop := fun x H₁ => x = .none ∧ Q .next ρ H₁
noncomputable abbrev IfQ (B : Base) (d : Nat) (sc : Scope) (ρ : Loc) (b o : List Stmt) (Q : Fl → Loc → AHeap → Prop) : Bool → AHeap → Prop := fun c H₁ => (c = true → WS B d sc ρ b Q H₁) ∧ (c = false → WS B d sc ρ o Q H₁)
noncomputable abbrev OrQ (B : Base) (d : Nat) (sc : Scope) (ρ : Loc) (rest : List Expr) (pos : Pos) (Q : Bool → AHeap → Prop) : Bool → AHeap → Prop := fun c H₁ => (c = true → Q true H₁) ∧ (c = false → WB B d sc ρ (.BoolOp .Or rest pos) Q H₁)
noncomputable abbrev AndQ (B : Base) (d : Nat) (sc : Scope) (ρ : Loc) (rest : List Expr) (pos : Pos) (Q : Bool → AHeap → Prop) : Bool → AHeap → Prop := fun c H₁ => (c = false → Q false H₁) ∧ (c = true → WB B d sc ρ (.BoolOp .And rest pos) Q H₁)
noncomputable abbrev SetAQ (B : Base) (d : Nat) (name : Str) (x : AVal) (Q : AHeap → Prop) : AVal → AHeap → Prop := fun a H₁ => U2 B d (fun o v => setAttr o name v) a x Q H₁
noncomputable abbrev SetIQ2 (B : Base) (d : Nat) (a x : AVal) (Q : AHeap → Prop) : AVal → AHeap → Prop := fun b H₂ => U3 B d (fun o i v => setItem o i v) a b x Q H₂
noncomputable abbrev SetIQ (B : Base) (d : Nat) (sc : Scope) (ρ : Loc) (i : Expr) (x : AVal) (Q : AHeap → Prop) : AVal → AHeap → Prop := fun a H₁ => W B d sc ρ i (SetIQ2 B d a x Q) H₁
noncomputable abbrev WAsQ (B : Base) (d : Nat) (sc : Scope) (ts : List Expr) (xs : List AVal) (Q : Loc → AHeap → Prop) : Loc → AHeap → Prop := fun ρ₁ H₁ => WAs B d sc ρ₁ ts xs Q H₁
noncomputable abbrev AsgQ (B : Base) (d : Nat) (sc : Scope) (ρ : Loc) (t : Expr) (Q : Loc → AHeap → Prop) : AVal → AHeap → Prop := fun x H₁ => WA B d sc ρ t x Q H₁
theorem WS_nil {Q : Fl → Loc → AHeap → Prop} (q : Q .next ρ H) : WS B d sc ρ [] Q H := fun A env X s R E S L => wpAny_execs_nil ⟨.next, ρ, H, .next, S, L, .refl _ _ _, q⟩
noncomputable def Cont (B : Base) (d : Nat) (sc : Scope) (rest : List Stmt) (Q : Fl → Loc → AHeap → Prop) : Fl → Loc → AHeap → Prop
  | .next, ρ, H => WS B d sc ρ rest Q H
  | .ret x, ρ, H => Q (.ret x) ρ H
theorem WS_cons {st : Stmt} {rest : List Stmt} {Q : Fl → Loc → AHeap → Prop} (h : W1 B d sc ρ st (Cont B d sc rest Q) H) : WS B d sc ρ (st :: rest) Q H := fun A env X s R E S L =>
  wpAny_execs_cons (monoOk (h A env X s R E S L) fun f s' ⟨fl, ρ', H', r, S', L', t, q⟩ => by
    cases r with
    | next => exact monoOk (q A env X s' R E S' L') fun _ _ o => o.trans t
    | ret r => exact ⟨_, ρ', H', .ret r, S', L', t, q⟩)
theorem WS_mono {ss : List Stmt} {Q Q' : Fl → Loc → AHeap → Prop} (h : WS B d sc ρ ss Q H) (k : ∀ fl ρ' H', Q fl ρ' H' → Q' fl ρ' H') : WS B d sc ρ ss Q' H := fun A env X s R E S L =>
  monoOk (h A env X s R E S L) fun f s' ⟨fl, ρ', H', r, S', L', t, q⟩ => ⟨fl, ρ', H', r, S', L', t, k _ _ _ q⟩
theorem WS_sub {ss : List Stmt} {Q : Fl → Loc → AHeap → Prop} (hs : Sub ρ' ρ) (h : WS B d sc ρ' ss Q H) : WS B d sc ρ ss Q H := fun A env X s R E S L => h A env X s R E S (L.sub hs)
theorem W_mono {e : Expr} {Q Q' : AVal → AHeap → Prop} (h : W B d sc ρ e Q H) (k : ∀ x H', Q x H' → Q' x H') : W B d sc ρ e Q' H := fun A env X s R E S L =>
  monoOk (h A env X s R E S L) fun f s' ⟨x, H', r, S', t, q⟩ => ⟨x, H', r, S', t, k _ _ q⟩
theorem VL_mono {t : List Value → Sem Value} {xs : List AVal} {Q Q' : AVal → AHeap → Prop} (h : VL B d t xs Q H) (k : ∀ x H', Q x H' → Q' x H') : VL B d t xs Q' H := fun A X s vs R S r =>
  monoOk (h A X s vs R S r) fun f s' ⟨x, H', r, S', t, q⟩ => ⟨x, H', r, S', t, k _ _ q⟩

theorem W1_ret {e : Expr} {pos : Pos} {Q : Fl → Loc → AHeap → Prop} (h : W B d sc ρ e (RetA ρ Q) H) : W1 B d sc ρ (.Return (some e) pos) Q H := fun A env X s R E S L =>
  wpAny_Return_some (monoOk (h A env X s R E S L) fun v s' ⟨x, H', r, S', t, q⟩ => ⟨.ret x, ρ, H', .ret r, S', L.kept S t.2, .of t, q⟩)
theorem W1_ret0 {pos : Pos} {Q : Fl → Loc → AHeap → Prop} (q : Q (.ret .none) ρ H) : W1 B d sc ρ (.Return none pos) Q H := fun A env X s R E S L =>
  wpAny_Return_none ⟨.ret .none, ρ, H, .ret .none, S, L, .refl _ _ _, q⟩
theorem EnvOK.inter (E : EnvOK sc env) : interactive env = false := by
  unfold interactive; rw [E.scope, E.kind]; rfl
theorem W1_expr {e : Expr} {pos : Pos} {Q : Fl → Loc → AHeap → Prop} (h : W B d sc ρ e (ExprQ ρ Q) H) (hs : ∀ env, swapsWith e none pos.line env = pure false := by intro _; with_unfolding_all rfl) : W1 B d sc ρ (.Expr e pos) Q H := fun A env X s R E S L =>
  wpAny_Expr (monoOk (h A env X s R E S L) fun v s' ⟨x, H', r, S', t, e, q⟩ => by
    subst e; cases r
    exact ⟨.next, ρ, H', .next, S', L.kept S t.2, .of t, q⟩) E.inter (hs env)
theorem W1_if {t : Expr} {b o : List Stmt} {pos : Pos} {Q : Fl → Loc → AHeap → Prop} (h : WB B d sc ρ t (IfQ B d sc ρ b o Q) H) : W1 B d sc ρ (.If t b o pos) Q H := fun A env X s R E S L =>
  wpAny_If (monoOk (h A env X s R E S L) fun c s₁ ⟨H₁, S₁, t₁, q₁⟩ => by
    cases c with
    | true => exact monoOk (q₁.1 rfl A env X s₁ R E S₁ (L.kept S t₁.2)) fun _ _ o => o.trans (.of t₁)
    | false => exact monoOk (q₁.2 rfl A env X s₁ R E S₁ (L.kept S t₁.2)) fun _ _ o => o.trans (.of t₁))

theorem WB_or1 {x : Expr} {rest : List Expr} {pos : Pos} {Q : Bool → AHeap → Prop} (h : WB B d sc ρ x (OrQ B d sc ρ rest pos Q) H) : WB B d sc ρ (.BoolOp .Or (x :: rest) pos) Q H := fun A env X s R E S L =>
  wpAny_isTrue_BoolOp (wpAny_allTrue_Or_cons (monoOk (h A env X s R E S L) fun c s₁ ⟨H₁, S₁, t₁, q₁⟩ => by
    cases c with
    | true => exact ⟨H₁, S₁, t₁, q₁.1 rfl⟩
    | false =>
      have := q₁.2 rfl A env X s₁ R E S₁ (L.kept S t₁.2)
      rw [arm_isTrue_BoolOp] at this
      exact monoOk this fun _ _ o => o.trans t₁))
theorem WB_or0 {pos : Pos} {Q : Bool → AHeap → Prop} (q : Q false H) : WB B d sc ρ (.BoolOp .Or [] pos) Q H := fun A env X s R E S L => wpAny_isTrue_BoolOp (wpAny_allTrue_Or_nil ⟨H, S, Step.refl _ _, q⟩)
theorem WB_and1 {x : Expr} {rest : List Expr} {pos : Pos} {Q : Bool → AHeap → Prop} (h : WB B d sc ρ x (AndQ B d sc ρ rest pos Q) H) : WB B d sc ρ (.BoolOp .And (x :: rest) pos) Q H := fun A env X s R E S L =>
  wpAny_isTrue_BoolOp (wpAny_allTrue_And_cons (monoOk (h A env X s R E S L) fun c s₁ ⟨H₁, S₁, t₁, q₁⟩ => by
    cases c with
    | false => exact ⟨H₁, S₁, t₁, q₁.1 rfl⟩
    | true =>
      have := q₁.2 rfl A env X s₁ R E S₁ (L.kept S t₁.2)
      rw [arm_isTrue_BoolOp] at this
      exact monoOk this fun _ _ o => o.trans t₁))
theorem WB_and0 {pos : Pos} {Q : Bool → AHeap → Prop} (q : Q true H) : WB B d sc ρ (.BoolOp .And [] pos) Q H := fun A env X s R E S L => wpAny_isTrue_BoolOp (wpAny_allTrue_And_nil ⟨H, S, Step.refl _ _, q⟩)
/-- «and» as a value, its parts bools -/
theorem W_and2 {x y : Expr} {pos : Pos} {Q : AVal → AHeap → Prop} (h : W B d sc ρ x (fun v H₁ => ∃ c, v = .bool c ∧ (c = false → Q (.bool false) H₁) ∧ (c = true → W B d sc ρ y Q H₁)) H) : W B d sc ρ (.BoolOp .And [x, y] pos) Q H := fun A env X s R E S L =>
  BoolOp_and (monoOk (h A env X s R E S L) fun v s₁ ⟨a, H₁, r₁, S₁, t₁, c, e, q1, q2⟩ => by
    subst e; cases r₁
    refine wpAny_truthy_bool ?_
    cases c with
    | false => exact ⟨_, H₁, .bool, S₁, t₁, q1 rfl⟩
    | true => exact BoolOp_one (monoOk (q2 rfl A env X s₁ R E S₁ (L.kept S t₁.2)) fun _ _ o => o.trans t₁))

/-! ### stores into names, fields, items -/

noncomputable def isVar (sc : Scope) (x : Str) : Bool := sc.names.lookup x == some .local || sc.names.lookup x == some .cell

theorem LRel.store (L : LRel B (Held H X) X h env ρ) (S : SRel B H X h) {x : Str} {a : AVal} {v : Value} {c : Addr} (hc : Own env c) (hs : Heap.SameBut c h h') (ho : ∃ o, h'.get? c = some o)
    (hn : ∃ m', h'.Ns env.locals m' ∧ (∀ y, y ≠ x → env.kindOf y = some .local → ∀ m, h.Ns env.locals m → m' y = m y) ∧ (env.kindOf x = some .local → m' x = some v))
    (hcell : ∀ y c' u, env.cells.lookup y = some c' → h.IsCell c' u → h'.IsCell c' (if env.kindOf x ≠ some .local ∧ y = x then some v else u)) (hx : env.kindOf x = some .local ∨ env.kindOf x = some .cell)
    (r : VRel B (Held H X) h a v) : SRel B H X h' ∧ LRel B (Held H X) X h' env (lset ρ x a) ∧ KeptE env H h H h' := by
  have kd : KeptD (Held H X) h (Held H X) h' := fun b o e i => ⟨(hs.2 b fun q => i (.inr (L.own b (q ▸ hc)))).trans e, i⟩
  have S' : SRel B H X h' := S.moved (fun b o e n => (hs.2 b fun q => n (L.own b (q ▸ hc))).trans e) (fun b q => by
    by_cases hb : b = c
    · exact hb ▸ ho
    · obtain ⟨_, o, e⟩ := S.hid b q; exact ⟨o, (hs.2 b hb).trans e⟩) 
  refine ⟨S', ?_, fun b o e i n => ⟨(hs.2 b fun q => n (q ▸ hc)).trans e, i⟩⟩
  obtain ⟨m', hn1, hn2, hn3⟩ := hn
  refine ⟨L.own, ⟨m', hn1, fun y b e k => ?_⟩, fun y b e k => ?_, fun y b e => ?_, fun y k => ?_, L.apart, L.off⟩
  · rw [lget_lset] at e
    by_cases hy : y = x
    · subst hy; rw [if_pos rfl] at e; cases e; exact ⟨v, hn3 k, r.mono kd⟩
    · rw [if_neg hy] at e
      obtain ⟨m, n, f⟩ := L.ns
      obtain ⟨u, g, r'⟩ := f y b e k
      exact ⟨u, (hn2 y hy k m n).trans g, r'.mono kd⟩
  · rw [lget_lset] at e
    by_cases hy : y = x
    · subst hy; rw [if_pos rfl] at e; cases e
      have nl : env.kindOf y ≠ some .local := by rcases k with k | k <;> rw [k] <;> decide
      obtain ⟨c', u, c1, c2⟩ := L.cells y k
      exact ⟨c', v, c1, by have := hcell y c' u c1 c2; rwa [if_pos ⟨nl, rfl⟩] at this, r.mono kd⟩
    · rw [if_neg hy] at e
      obtain ⟨c', u, c1, c2, r'⟩ := L.cell y b e k
      exact ⟨c', u, c1, by have := hcell y c' _ c1 c2; rwa [if_neg fun z => hy z.2] at this, r'.mono kd⟩
  · rw [lget_lset] at e
    by_cases hy : y = x
    · subst hy; exact hx.imp id .inl
    · rw [if_neg hy] at e; exact L.kind y b e
  · obtain ⟨c', u, c1, c2⟩ := L.cells y k
    exact ⟨c', _, c1, hcell y c' u c1 c2⟩

theorem WA_name {x : Str} {pos : Pos} {a : AVal} {Q : Loc → AHeap → Prop} (hv : isVar sc x = true) (q : Q (lset ρ x a) H) : WA B d sc ρ (.Name x pos) a Q H := fun A env X s v R E S L r => by
  have hk : env.scope.kind = .function := E.scope ▸ E.kind
  have ek : ∀ y, env.kindOf y = sc.names.lookup y := fun y => by unfold Env.kindOf; rw [E.scope]
  refine wpAny_assign_Name ?_
  obtain ⟨m, n, f⟩ := L.ns
  rcases Bool.or_eq_true_iff.mp hv with k | k
  · have k' : env.kindOf x = some .local := (ek x).trans (beq_iff_eq.mp k)
    refine wpAny_storeName_local k' n (fun h' hn' hs' => ?_) (by rw [hk]; rfl)
    obtain ⟨S', L', K'⟩ := L.store (x := x) (v := v) S (.inl rfl) hs' (let ⟨o, es, ep, e, _⟩ := hn'; ⟨o, e⟩) ⟨_, hn', fun y hy _ m₂ n₂ => by
      rw [if_neg hy]
      obtain ⟨o, es, ep, e1, e2, _, e3⟩ := n
      obtain ⟨o', es', ep', f1, f2, _, f3⟩ := n₂
      rw [e1] at f1; cases f1; rw [e2] at f2; cases f2
      rw [← e3, f3], fun _ => if_pos rfl⟩ (fun y c' u e c2 => by
        rw [if_neg fun z => z.1 k']
        exact c2.sameBut hs' (L.off y c' (mem_of_lookup e))) (.inl k') r
    exact ⟨_, H, S', L', ⟨⟨_, _, rfl⟩, K'⟩, q⟩
  · have k' : env.kindOf x = some .cell := (ek x).trans (beq_iff_eq.mp k)
    have nl : env.kindOf x ≠ some .local := by rw [k']; decide
    obtain ⟨c, u, c1, c2⟩ := L.cells x (.inl k')
    have hLc : env.locals ≠ c := Ne.symm (L.off x c (mem_of_lookup c1))
    refine wpAny_storeName_cell hk k' c1 c2 fun h' hc' hs' => ?_
    obtain ⟨S', L', K'⟩ := L.store (x := x) (v := v) S (.inr ⟨x, mem_of_lookup c1⟩) hs' (let ⟨o, e, _⟩ := hc'; ⟨o, e⟩) ⟨m, n.sameBut hs' hLc, fun y hy _ m₂ n₂ => by
      obtain ⟨o, es, ep, e1, e2, _, e3⟩ := n
      obtain ⟨o', es', ep', f1, f2, _, f3⟩ := n₂
      rw [e1] at f1; cases f1; rw [e2] at f2; cases f2
      rw [← e3, f3], fun z => absurd z nl⟩ (fun y c' u' e c3 => by
        by_cases hy : y = x
        · subst hy; rw [c1] at e; cases e
          rw [if_pos ⟨nl, rfl⟩]; exact hc'
        · rw [if_neg fun z => hy z.2]
          exact c3.sameBut hs' fun z => hy (L.apart y x c' e (z ▸ c1))) (.inr k') r
    exact ⟨_, H, S', L', ⟨⟨_, _, rfl⟩, K'⟩, q⟩

theorem WA_attr {o : Expr} {name : Str} {pos : Pos} {x : AVal} {Q : Loc → AHeap → Prop} (h : W B d sc ρ o (SetAQ B d name x (Q ρ)) H) : WA B d sc ρ (.Attribute o name pos) x Q H := fun A env X s v R E S L r => by
  show wpAny _ A (do let ov ← holding [v] (eval o env); standAt pos.atName; holding [v, ov] (setAttr ov name v); release [v, ov] []) _ _ s
  refine wpAny_bind (wpAny_holding (monoOk (h A env X s R E S L) fun u s₁ ⟨a, H₁, r₁, S₁, t₁, q₁⟩ => wpAny_bind (wpAny_standAt ?_)))
  refine wpAny_bind (wpAny_holding (monoOk (q₁ A X s₁ u v R S₁ r₁ (r.mono t₁.2.held)) fun _ s₂ ⟨H₂, S₂, t₂, q₂⟩ => ?_))
  intro Γ p hΓ
  rw [Sem.wp_release]
  exact ⟨ρ, H₂, S₂, (L.kept S t₁.2).kept S₁ t₂.2, .of (t₁.trans t₂), q₂⟩
theorem WA_sub {o i : Expr} {pos : Pos} {x : AVal} {Q : Loc → AHeap → Prop} (h : W B d sc ρ o (SetIQ B d sc ρ i x (Q ρ)) H) : WA B d sc ρ (.Subscript o i pos) x Q H := fun A env X s v R E S L r => by
  rw [assign_Subscript]
  refine wpAny_bind (wpAny_holding (monoOk (h A env X s R E S L) fun u s₁ ⟨a, H₁, r₁, S₁, t₁, q₁⟩ => ?_))
  refine wpAny_bind (wpAny_holding (monoOk (q₁ A env X s₁ R E S₁ (L.kept S t₁.2)) fun z s₂ ⟨b, H₂, r₂, S₂, t₂, q₂⟩ => wpAny_bind (wpAny_standAt ?_)))
  refine wpAny_bind (wpAny_holding (monoOk (q₂ A X s₂ u z v R S₂ (r₁.mono t₂.2.held) r₂ (r.mono (t₁.trans t₂).2.held)) fun _ s₃ ⟨H₃, S₃, t₃, q₃⟩ => ?_))
  intro Γ p hΓ
  rw [Sem.wp_release]
  exact ⟨ρ, H₃, S₃, ((L.kept S t₁.2).kept S₁ t₂.2).kept S₂ t₃.2, .of ((t₁.trans t₂).trans t₃), q₃⟩

theorem WAs_nil {Q : Loc → AHeap → Prop} (q : Q ρ H) : WAs B d sc ρ [] [] Q H := fun A env X s vs R E S L r => by
  rw [r.inv_nil]; exact wpAny_pure ⟨ρ, H, S, L, .refl _ _ _, q⟩
theorem WAs_cons {t : Expr} {ts : List Expr} {x : AVal} {xs : List AVal} {Q : Loc → AHeap → Prop} (h : WA B d sc ρ t x (WAsQ B d sc ts xs Q) H)
    (ht : ∀ env, assignEach (t :: ts) env = (false, assign t env) :: assignEach ts env := by intro _; with_unfolding_all rfl) : WAs B d sc ρ (t :: ts) (x :: xs) Q H := fun A env X s vs R E S L r => by
  obtain ⟨v, vs', rfl, r1, r2⟩ := r.inv_cons
  rw [ht]
  show wpAny _ A (do holding vs' (assign t env v); assignInOrder ((assignEach ts env).map (·.2)) vs') _ _ s
  refine wpAny_bind (wpAny_holding (monoOk (h A env X s v R E S L r1) fun _ s₁ ⟨ρ₁, H₁, S₁, L₁, t₁, q₁⟩ => ?_))
  exact monoOk (q₁ A env X s₁ vs' R E S₁ L₁ (r2.mono (t₁.keptD L.own))) fun _ _ o => o.trans t₁
theorem WA_tup {ts : List Expr} {k : Nat} {pos : Pos} {xs : List AVal} {Q : Loc → AHeap → Prop} (h : WAs B d sc ρ ts xs Q H) (hn : ∀ env, (assignEach ts env).length = xs.length := by intro _; with_unfolding_all rfl)
    (hstar : ∀ env, (assignEach ts env).findIdx? (·.1) = none := by intro _; with_unfolding_all rfl) : WA B d sc ρ (.Tuple ts k pos) (.tup xs) Q H := fun A env X s v R E S L r => by
  obtain ⟨t, vs, n, rfl, hT, f⟩ := tup_of r
  have ht : IsTup s.heap t vs.toArray := ⟨_, hT, rfl, n, rfl⟩
  rw [assign_Tuple]
  refine wpAny_bind (wpAny_standAt ?_)
  refine unpack_tuple R.handled ht (by rw [hn, List.size_toArray, f.1]) (hstar env) fun h' hx => ?_
  have hk : ∀ a o, s.heap.get? a = some o → h'.get? a = some o := fun a o e => hx a o (Nat.ne_of_lt (Heap.lt_size e)) e
  have S' : SRel B H X h' := S.grown hk
  have := h A env X { s with heap := h' } vs R E S' (L.kept S (Kept.grown hk)) (f.mono (Kept.grown hk).held)
  exact monoOk this fun _ _ o => o.trans ⟨⟨_, _, rfl⟩, fun a o e i _ => ⟨hk a o e, i⟩⟩
end

section
variable {B : Base} {H H' : AHeap} {X D D' : Addr → Prop} {h h' : Heap} {env : Env} {ρ ρ' : Loc} {d : Nat} {sc : Scope}

/-! ## loops -/

noncomputable def rangeL (n : Nat) : List AVal := (List.range n).map fun i => AVal.int (i : Nat)
noncomputable def Iter (a : AVal) (xs : List AVal) : Prop := a = .lst xs ∨ a = .tup xs ∨ ∃ n, a = .rng n ∧ n ≤ 1000 ∧ xs = rangeL n

theorem iter_of {A : Around} {s : Shared} {a : AVal} {v : Value} {xs : List AVal} (hh : A.handled = none) (r : VRel B D s.heap a v) (it : Iter a xs) :
    ∃ (oI : Obj) (ax : Addr) (P : Nat → Value → Prop) (St : Nat → Heap → Prop), oI.isFreed = false ∧
      (∀ Q : Value → Shared → Prop, Q (.ref s.heap.objs.size) { s with heap := s.heap.push oI } → wpAny (model B.prog B.w) A (pyIter v) Q Fa s) ∧
      Walks B.prog B.w A s.heap.objs.size [s.heap.objs.size, ax] [s.heap.objs.size] xs.length P St ∧ St 0 (s.heap.push oI) ∧ ¬ D ax ∧ (∃ o, s.heap.get? ax = some o) ∧
      (∀ i u y, P i u → xs[i]? = some y → VRel B D s.heap y u) ∧ (∀ i h, St i h → ∃ o, h.get? s.heap.objs.size = some o) ∧
      (∀ i (s₁ : Shared) (Q : Value → Shared → Prop), St i s₁.heap → Q (.ref s.heap.objs.size) s₁ → wpAny (model B.prog B.w) A (pyIter (.ref s.heap.objs.size)) Q Fa s₁) := by
  rcases it with rfl | rfl | ⟨n, rfl, hn, rfl⟩
  · cases r with
    | lst ha hi hl hv =>
      rename_i vs ax n
      have hL : s.heap.IsList ax vs.toArray := ⟨_, ha, rfl, n, rfl⟩
      have hne : ax ≠ s.heap.objs.size := Nat.ne_of_lt (Heap.lt_size ha)
      have W := Walks.list (prog := B.prog) (w := B.w) hh s.heap.objs.size ax hne vs.toArray
      refine ⟨{ cls := .type "list_iterator", data := .fields #[.ref ax, .int 0 0] }, ax, fun i v => vs.toArray[i]? = some v, fun i h => h.IsListIter s.heap.objs.size ax i ∧ h.IsList ax vs.toArray, rfl, fun Q q => wpAny_pyIter_list hL q, by rw [← hl, ← List.size_toArray]; exact W, ⟨⟨_, Heap.get?_push_size _ rfl, rfl, rfl⟩, hL.push _⟩, hi, ⟨_, ha⟩, fun i u y p e => hv i y u e (by simpa using p), fun i h st => ?_, fun i s₁ Q st q => W.self i s₁ Q _ st q⟩
      obtain ⟨⟨o, ho, _⟩, _⟩ := st; exact ⟨o, ho⟩
  · cases r with
    | tup ha hi hl hv =>
      rename_i vs ax n
      have hL : s.heap.IsTuple ax vs.toArray := ⟨_, ha, rfl, n, rfl⟩
      have hne : ax ≠ s.heap.objs.size := Nat.ne_of_lt (Heap.lt_size ha)
      have W := Walks.tuple (prog := B.prog) (w := B.w) hh s.heap.objs.size ax hne vs.toArray
      refine ⟨{ cls := .type "tuple_iterator", data := .fields #[.ref ax, .int 0 0] }, ax, fun i v => vs.toArray[i]? = some v, fun i h => h.IsTupleIter s.heap.objs.size ax i ∧ h.IsTuple ax vs.toArray, rfl, fun Q q => wpAny_pyIter_tuple hL q, by rw [← hl, ← List.size_toArray]; exact W, ⟨⟨_, Heap.get?_push_size _ rfl, rfl, rfl⟩, hL.push _⟩, hi, ⟨_, ha⟩, fun i u y p e => hv i y u e (by simpa using p), fun i h st => ?_, fun i s₁ Q st q => W.self i s₁ Q _ st q⟩
      obtain ⟨⟨o, ho, _⟩, _⟩ := st; exact ⟨o, ho⟩
  · cases r with
    | rng ha hi =>
      rename_i ax t u v
      have W := Walks.range (prog := B.prog) (w := B.w) hh s.heap.objs.size 0 1 n
      have hs : Builtin.Range.rangeSize 0 n 1 = n := by unfold Builtin.Range.rangeSize; simp; lia
      have hsm : Builtin.Range.small 0 n 1 = true := by
        have hf : ∀ z : Int, 0 ≤ z → z ≤ 1001 → Builtin.Range.rangeFitsLong z = true := fun z h1 h2 => by
          unfold Builtin.Range.rangeFitsLong
          simp only [Bool.and_eq_true, decide_eq_true_eq]
          lia
        unfold Builtin.Range.small
        rw [hs, hf 0 (by lia) (by lia), hf n (by lia) (by lia), hf 1 (by lia) (by lia), hf (n + (1 - 1)) (by lia) (by lia)]
        simp
      have len : (rangeL n).length = n := by simp [rangeL]
      refine ⟨{ cls := .type "range_iterator", data := .fields #[rawInt 0, rawInt (Builtin.Range.rangeSize 0 n 1), rawInt 1] }, ax, fun i v => ∃ t, v = .int (0 + i * 1) t, fun i h => IsRangeIter h s.heap.objs.size (0 + (i : Nat) * 1) ((n : Int) - (i : Nat)) 1, rfl, fun Q q => wpAny_pyIter_range ha hsm q, ?_, ?_, hi, ⟨_, ha⟩, fun i u y p e => ?_, fun i h st => ⟨_, st⟩, fun i s₁ Q st q => W.self i s₁ Q _ st q⟩
      · rw [len]; exact W.mono_fp fun b hb => by simp at hb; simp [hb]
      · rw [hs]; have := Heap.get?_push_size s.heap (o := { cls := .type "range_iterator", data := .fields #[rawInt 0, rawInt n, rawInt 1] }) rfl; simpa using this
      · obtain ⟨t, rfl⟩ := p
        have hi' : i < n := by have := (List.getElem?_eq_some_iff.mp e).1; rwa [len] at this
        have : y = .int (i : Nat) := by
          unfold rangeL at e
          rw [List.getElem?_map, List.getElem?_range hi'] at e
          simpa using e.symm
        subst this
        simp only [Int.mul_one, Int.zero_add]
        exact .int

/-- what a turn of a loop leaves -/
inductive TurnQ (ρ₂ : Loc) (J : Loc → AHeap → Prop) (H₃ : AHeap) : Prop
  | mk (ρ₃ : Loc) (s : Sub ρ₃ ρ₂) (j : J ρ₃ H₃) : TurnQ ρ₂ J H₃
noncomputable def LoopQ (J : Loc → AHeap → Prop) (Q : Fl → Loc → AHeap → Prop) : Fl → Loc → AHeap → Prop
  | .next, ρ₂, H₃ => TurnQ ρ₂ J H₃
  | .ret v, ρ₂, H₃ => Q (.ret v) ρ₂ H₃
inductive ForP (B : Base) (d : Nat) (sc : Scope) (ρ : Loc) (x : Str) (body : List Stmt) (Q : Fl → Loc → AHeap → Prop) (a : AVal) (H₁ : AHeap) : Prop
  | mk (xs : List AVal) (ρ₀ : Loc) (J : Nat → Loc → AHeap → Prop) (it : Iter a xs) (sb : Sub ρ₀ ρ) (j0 : J 0 ρ₀ H₁)
      (step : ∀ i y ρ₁ H₂, xs[i]? = some y → J i ρ₁ H₂ → WS B d sc (lset ρ₁ x y) body (LoopQ (J (i + 1)) Q) H₂)
      (fin : ∀ ρ₁ H₂, J xs.length ρ₁ H₂ → Q .next ρ₁ H₂) : ForP B d sc ρ x body Q a H₁
/-- what a pull at an iterator leaves -/
inductive Pulled (N : Nat) (I : Addr) (P : Nat → Value → Prop) (St : Nat → Heap → Prop) (s₁ : Shared) (h' : Heap) (i : Nat) : Option Value → Shared → Prop
  | done (h'' : Heap) (tk' : Nat) (e : i = N) (hk : ∀ b o, b ≠ I → h'.get? b = some o → h''.get? b = some o) : Pulled N I P St s₁ h' i none { s₁ with heap := h'', toks := tk' }
  | item (u : Value) (h'' : Heap) (tk' : Nat) (hlt : i < N) (hk : ∀ b o, b ≠ I → h'.get? b = some o → h''.get? b = some o) (p : P i u) (st : St (i + 1) h'') : Pulled N I P St s₁ h' i (some u) { s₁ with heap := h'', toks := tk' }
theorem pull_of {prog : Program} {w : World} {A : Around} {I : Addr} {ax : Addr} {N : Nat} {P : Nat → Value → Prop} {St : Nat → Heap → Prop} (WK : Walks prog w A I [I, ax] [I] N P St) {i : Nat} (hi : i ≤ N) {s₁ : Shared} {h' : Heap} {tk : Nat} (st : St i h') :
    wpAny (model prog w) A (pyNext (.ref I)) (Pulled N I P St s₁ h' i) Fa { s₁ with heap := h', toks := tk } := by
  by_cases hlt : i < N
  · exact WK.item i { s₁ with heap := h', toks := tk } _ _ hlt st fun u h'' tk' p st' hk => .item u h'' tk' hlt (fun b o hb e => hk b o (by simpa using hb) e) p st'
  · have hi' : i = N := Nat.le_antisymm hi (Nat.not_lt.mp hlt)
    subst hi'
    exact WK.done { s₁ with heap := h', toks := tk } _ _ st fun h'' tk' hk => .done h'' tk' rfl fun b o hb e => hk b o (by simpa using hb) e
/-- the iterator goes -/
theorem SRel.pulled {I : Addr} {h'' : Heap} (S' : SRel B H (fun b => X b ∨ b = I) h) (nX : ¬ X I) (hk : ∀ b o, b ≠ I → h.get? b = some o → h''.get? b = some o) : SRel B H X h'' ∧ KeptD (Held H fun b => X b ∨ b = I) h (Held H X) h'' := by
  have kdd : KeptD (Held H fun b => X b ∨ b = I) h (Held H X) h'' := fun c o q i => ⟨hk c o (fun z => i (.inr (.inr z))) q, fun z => i (z.imp id .inl)⟩
  have nb : ∀ b, H b ≠ none → b ≠ I := fun b q z => q (z ▸ (S'.hid I (.inr rfl)).1)
  refine ⟨⟨fun b o e => ?_, fun b q => ?_, fun b ob e => ?_⟩, kdd⟩
  · obtain ⟨e1, e2⟩ := S'.base b o e
    exact ⟨hk b o (fun z => e2 (.inr (.inr z))) e1, fun z => e2 (z.imp id .inl)⟩
  · obtain ⟨q1, o, q2⟩ := S'.hid b (.inl q)
    exact ⟨q1, o, hk b o (fun z => nX (z ▸ q)) q2⟩
  · exact (S'.objs b ob e).moved kdd (fun o q => hk b o (nb b (by simp [e])) q) fun C dx fs _ q => ⟨q, fun o z => hk dx o (nb dx (by simp [q])) z⟩
/-- an item comes -/
theorem SRel.pull1 {I : Addr} {h'' : Heap} (S' : SRel B H (fun b => X b ∨ b = I) h) (hI : ∃ o, h''.get? I = some o) (hk : ∀ b o, b ≠ I → h.get? b = some o → h''.get? b = some o) : SRel B H (fun b => X b ∨ b = I) h'' ∧ KeptD (Held H fun b => X b ∨ b = I) h (Held H fun b => X b ∨ b = I) h'' :=
  ⟨S'.moved (fun b o e n => hk b o (fun z => n (.inr z)) e) fun b q => by
    by_cases hb : b = I
    · rw [hb]; exact hI
    · obtain ⟨_, o, e⟩ := S'.hid b q; exact ⟨o, hk b o hb e⟩, fun b o e i => ⟨hk b o (fun z => i (.inr (.inr z))) e, i⟩⟩
inductive ForInv (B : Base) (env : Env) (X X' : Addr → Prop) (H₁ : AHeap) (s₁ : Shared) (N : Nat) (St : Nat → Heap → Prop) (J : Nat → Loc → AHeap → Prop) (n : Nat) (s' : Shared) : Prop
  | mk (i : Nat) (ρ₁ : Loc) (H₂ : AHeap) (hn : n = N + 1 - i) (hi : i ≤ N) (sm : SameS s₁ s') (S : SRel B H₂ X' s'.heap) (L : LRel B (Held H₂ X') X' s'.heap env ρ₁) (ke : KeptE env H₁ s₁.heap H₂ s'.heap)
      (kd : KeptD (Held H₁ X) s₁.heap (Held H₂ X') s'.heap) (st : St i s'.heap) (j : J i ρ₁ H₂) : ForInv B env X X' H₁ s₁ N St J n s'
theorem W1_forE {x : Str} {px pos : Pos} {iter : Expr} {body : List Stmt} {Q : Fl → Loc → AHeap → Prop} (hx : isVar sc x = true)
    (hse : ∀ env y, foldedSetIterable iter env y = pure y)
    (h : W B d sc ρ iter (ForP B d sc ρ x body Q) H) : W1 B d sc ρ (.For (.Name x px) iter body [] pos) Q H := fun A env X s R E S L => by
  refine wpAny_For (monoOk (h A env X s R E S L) fun v s₁ ⟨a, H₁, r₁, S₁, t₁, xs, ρ₀, J, it, hsub, j0, step, fin⟩ => ?_) (hse env)
  obtain ⟨oI, ax, P, St, hof, hiter, WK, st0, hax, ⟨oax, eax⟩, hP, hSt, _⟩ := iter_of (B := B) (A := A) R.handled r₁ it
  refine hiter _ ?_
  let I := s₁.heap.objs.size
  let X' : Addr → Prop := fun b => X b ∨ b = I
  have L₁ := (L.kept S t₁.2).sub hsub
  have S₂ : SRel B H₁ X' (s₁.heap.push oI) := S₁.hide oI hof
  have kd₀ : KeptD (Held H₁ X) s₁.heap (Held H₁ X') (s₁.heap.push oI) := fun b o e i =>
    ⟨Heap.get?_push_of_some _ e, fun q => q.elim (fun z => i (.inl z)) fun z => z.elim (fun z => i (.inr z)) fun z => Nat.ne_of_lt (Heap.lt_size e) z⟩
  have hoE : ∀ b, Own env b → X b := L.own
  have ownNe : ∀ b, Own env b → b ≠ I := fun b q z => S₁.fresh (.inr (show X I from z ▸ hoE b q))
  have L₂ : LRel B (Held H₁ X') X' (s₁.heap.push oI) env ρ₀ := by
    have := L₁.moved kd₀ fun b o _ e => Heap.get?_push_of_some _ e
    exact ⟨fun b q => .inl (this.own b q), this.ns, this.cell, this.kind, this.cells, this.apart, this.off⟩
  refine codeAny_forLoop
    (ForInv B env X X' H₁ s₁ xs.length St J)
    ?_ (xs.length + 1) ⟨0, ρ₀, H₁, rfl, Nat.zero_le _, ⟨_, _, rfl⟩, S₂, L₂, fun b o e i _ => ⟨Heap.get?_push_of_some _ e, i⟩, kd₀, st0, j0⟩
  rintro n s' ⟨i, ρ₁, H₂, rfl, hi, ⟨h', tk, rfl⟩, S', L', ke, kd, st, jj⟩
  refine wpAny_mono (pull_of WK hi st) ?_ (fun _ _ f => f.elim)
  · intro r s₂ hr
    cases hr with
    | done h'' tk' e hk =>
      subst e
      refine wpAny_execs_nil ?_
      obtain ⟨S'', kdd⟩ := S'.pulled (fun z => S₁.fresh (.inr z)) hk
      have L'' : LRel B (Held H₂ X) X h'' env ρ₁ := by
        have := L'.moved kdd fun b o q e => hk b o (ownNe b q) e
        exact ⟨hoE, this.ns, this.cell, this.kind, this.cells, this.apart, this.off⟩
      refine ⟨.next, ρ₁, H₂, .next, S'', L'', (StepE.of t₁).trans ⟨⟨_, _, rfl⟩, fun b o e i nn => ?_⟩, fin ρ₁ H₂ jj⟩
      have k := ke b o e i nn
      exact ⟨hk b o (Nat.ne_of_lt (Heap.lt_size e)) k.1, k.2⟩
    | item u h'' tk' hlt hk p st' =>
      have hy : xs[i]? = some xs[i] := by simp [hlt]
      obtain ⟨S'', kd'⟩ := S'.pull1 (hSt _ _ st') hk
      have L'' : LRel B (Held H₂ X') X' h'' env ρ₁ := L'.moved kd' fun b o q e => hk b o (ownNe b q) e
      have ru : VRel B (Held H₂ X') h'' xs[i] u := ((hP i u xs[i] p hy).mono kd).mono kd'
      refine wpAny_mono (WA_name (Q := fun ρ₂ H₃ => ρ₂ = lset ρ₁ x xs[i] ∧ H₃ = H₂) hx ⟨rfl, rfl⟩ A env X' { s₁ with heap := h'', toks := tk' } u R E S'' L'' ru) ?_ (fun _ _ f => f.elim)
      rintro _ s₃ ⟨ρ₂, H₃, S₃, L₃, t₃, rfl, eH⟩
      have eH' := eH.symm
      subst eH'
      refine wpAny_mono (step i xs[i] ρ₁ H₂ hy jj A env X' s₃ R E S₃ L₃) ?_ (fun _ _ f => f.elim)
      rintro f s₄ ⟨fl, ρ₂, H₄, rf, S₄, L₄, t₄, q₄⟩
      have L₄own : ∀ b, Own env b → X' b := L₄.own
      have ke' : KeptE env H₁ s₁.heap H₄ s₄.heap := fun b o e i nn => by
        have k := ke b o e i nn
        have k2 := t₃.2 b o (hk b o (Nat.ne_of_lt (Heap.lt_size e)) k.1) k.2 nn
        exact t₄.2 b o k2.1 k2.2 nn
      have kd4 : KeptD (Held H₁ X) s₁.heap (Held H₄ X') s₄.heap := (kd.trans kd').trans ((t₃.keptD L₄own).trans (t₄.keptD L₄own))
      cases rf with
      | next =>
        obtain ⟨ρ₃, hs3, j4⟩ := q₄
        refine ⟨xs.length + 1 - (i + 1), by lia, i + 1, ρ₃, H₄, rfl, hlt, ?_, S₄, L₄.sub hs3, ke', kd4, ?_, j4⟩
        · obtain ⟨⟨h3, tk3, rfl⟩, _⟩ := t₃
          obtain ⟨⟨h4, tk4, rfl⟩, _⟩ := t₄
          exact ⟨h4, tk4, rfl⟩
        · refine WK.frame _ _ _ st' fun b hb o e => ?_
          have nO : ¬ Own env b := fun q => by
            rcases List.mem_cons.mp hb with z | z
            · exact ownNe b q z
            · have z' : b = ax := by simpa using z
              exact hax (z' ▸ .inr (hoE b q))
          have nH : H₂ b = none := by
            rcases List.mem_cons.mp hb with z | z
            · exact z ▸ (S''.hid I (.inr rfl)).1
            · have z' : b = ax := by simpa using z
              have := kd ax oax eax hax
              rw [z']; exact Held.none this.2
          have k3 := t₃.2 b o e nH nO
          exact (t₄.2 b o k3.1 k3.2 nO).1
      | ret r =>
        have hn : ∀ b, Held H₄ X b → Held H₄ X' b := fun b q => q.imp id .inl
        refine ⟨.ret _, ρ₂, H₄, .ret (r.mono (KeptD.weaken hn)), S₄.show fun b q => .inl q, ?_, (StepE.of t₁).trans ⟨?_, ke'⟩, q₄⟩
        · have := L₄.moved (KeptD.weaken hn) fun b o _ e => e
          exact ⟨hoE, this.ns, this.cell, this.kind, this.cells, this.apart, this.off⟩
        · obtain ⟨⟨h3, tk3, rfl⟩, _⟩ := t₃
          obtain ⟨⟨h4, tk4, rfl⟩, _⟩ := t₄
          exact ⟨h4, tk4, rfl⟩

theorem W1_for {x : Str} {px pos : Pos} {iter : Expr} {body : List Stmt} {Q : Fl → Loc → AHeap → Prop} (J : Nat → Loc → AHeap → Prop) (hx : isVar sc x = true)
    (hse : ∀ env y, foldedSetIterable iter env y = pure y)
    (h : W B d sc ρ iter (fun a H₁ => ∃ xs ρ₀, Iter a xs ∧ Sub ρ₀ ρ ∧ J 0 ρ₀ H₁ ∧
      (∀ i y ρ₁ H₂, xs[i]? = some y → J i ρ₁ H₂ → WS B d sc (lset ρ₁ x y) body (LoopQ (J (i + 1)) Q) H₂) ∧
      (∀ ρ₁ H₂, J xs.length ρ₁ H₂ → Q .next ρ₁ H₂)) H) : W1 B d sc ρ (.For (.Name x px) iter body [] pos) Q H :=
  W1_forE hx hse fun A env X s R E S L => monoOk (h A env X s R E S L) fun v s' ⟨a, H₁, r, S', t, xs, ρ₀, q1, q2, q3, q4, q5⟩ => ⟨a, H₁, r, S', t, xs, ρ₀, J, q1, q2, q3, q4, q5⟩

theorem W1_while {test : Expr} {pos : Pos} {body : List Stmt} {Q : Fl → Loc → AHeap → Prop} (J : Nat → Loc → AHeap → Prop)
    (h0 : ∃ n ρ₀, Sub ρ₀ ρ ∧ J n ρ₀ H)
    (step : ∀ n ρ₁ H₁, J n ρ₁ H₁ → WB B d sc ρ₁ test (fun c H₂ =>
      (c = true → WS B d sc ρ₁ body (fun fl ρ₂ H₃ => match fl with | .next => ∃ m ρ₃, m < n ∧ Sub ρ₃ ρ₂ ∧ J m ρ₃ H₃ | .ret v => Q (.ret v) ρ₂ H₃) H₂) ∧ (c = false → Q .next ρ₁ H₂)) H₁) :
    W1 B d sc ρ (.While test body [] pos) Q H := fun A env X s R E S L => by
  obtain ⟨n, ρ₀, hs, j0⟩ := h0
  refine wpAny_While (codeAny_whileLoop
    (fun n s' => ∃ ρ₁ H₁, SRel B H₁ X s'.heap ∧ LRel B (Held H₁ X) X s'.heap env ρ₁ ∧ StepE env H s H₁ s' ∧ J n ρ₁ H₁) ?_ n ⟨ρ₀, H, S, L.sub hs, .refl _ _ _, j0⟩)
  rintro n s' ⟨ρ₁, H₁, S₁, L₁, t₁, j1⟩
  refine wpAny_mono (step n ρ₁ H₁ j1 A env X s' R E S₁ L₁) ?_ (fun _ _ f => f.elim)
  rintro c s₂ ⟨H₂, S₂, t₂, q1, q2⟩
  have L₂ := L₁.kept S₁ t₂.2
  cases c with
  | false =>
    simp only [Bool.false_eq_true, if_false]
    exact wpAny_execs_nil ⟨.next, ρ₁, H₂, .next, S₂, L₂, t₁.trans (.of t₂), q2 rfl⟩
  | true =>
    simp only [if_true]
    refine wpAny_mono (q1 rfl A env X s₂ R E S₂ L₂) ?_ (fun _ _ f => f.elim)
    rintro f s₃ ⟨fl, ρ₂, H₃, rf, S₃, L₃, t₃, q₃⟩
    cases rf with
    | next => obtain ⟨m, ρ₃, hm, hs3, j3⟩ := q₃; exact ⟨m, hm, ρ₃, H₃, S₃, L₃.sub hs3, (t₁.trans (.of t₂)).trans t₃, j3⟩
    | ret r => exact ⟨.ret _, ρ₂, H₃, .ret r, S₃, L₃, (t₁.trans (.of t₂)).trans t₃, q₃⟩
end

/-! ## comprehensions -/

noncomputable def relabelS (scope sc : Scope) : Scope :=
  { scope with names := scope.names.map fun (n, k) => if (k == .free && sc.kind == .function && sc.names.lookup n == some .cell) then (n, .cell) else (n, k) }
theorem relabel_eq {scope : Scope} {env : Env} {sc : Scope} (e : env.scope = sc) : relabel scope env = relabelS scope sc := by
  unfold relabel relabelS Env.kindOf; rw [e]

noncomputable def compOK (scope sc : Scope) : Bool :=
  scope.kind == .function && sc.kind == .function && scope.names.all fun p => scope.names.lookup p.1 == some p.2 && (p.2 == .local || p.2 == .globalImplicit || (p.2 == .free && (sc.names.lookup p.1 == some .cell || sc.names.lookup p.1 == some .free)))

noncomputable def clos (cells : List (Str × Addr)) : List (Str × NameKind) → List (Str × Addr) → List (Str × Addr)
  | [], acc => acc
  | (n, k) :: r, acc => if k == .free then clos cells r ((n, (cells.lookup n).getD 0) :: acc) else clos cells r acc

theorem forIn_clos {env : Env} : ∀ (names : List (Str × NameKind)) (acc : List (Str × Addr)), (∀ p ∈ names, p.2 = .free → ∃ c, env.cells.lookup p.1 = some c) →
    (forIn names acc fun (x : Str × NameKind) cs => (match x with | (name, kind) => if kind == .free then (do let a ← cellOf env name; pure (.yield ((name, a) :: cs))) else pure (.yield cs) : Sem (ForInStep (List (Str × Addr))))) = pure (clos env.cells names acc)
  | [], acc, _ => by rw [List.forIn_nil]; rfl
  | (n, k) :: r, acc, h => by
    rw [List.forIn_cons]
    have hr : ∀ p ∈ r, p.2 = .free → ∃ c, env.cells.lookup p.1 = some c := fun p hp => h p (.tail _ hp)
    unfold clos
    by_cases hk : (k == NameKind.free) = true
    · obtain ⟨c, hc⟩ := h (n, k) (.head _) (by simpa using hk)
      simp only [hk, if_true]
      unfold cellOf
      simp only [hc, Option.getD_some]
      show (pure (ForInStep.yield ((n, c) :: acc)) >>= _) = _
      rw [pure_bind]
      exact forIn_clos r _ hr
    · have hk' : (k == NameKind.free) = false := by simpa using hk
      simp only [hk', Bool.false_eq_true, if_false]
      rw [pure_bind]
      exact forIn_clos r _ hr
theorem closure_eq {scope : Scope} {env : Env} (h : ∀ p ∈ scope.names, p.2 = .free → ∃ c, env.cells.lookup p.1 = some c) : closureFor scope env = pure (clos env.cells scope.names []) := by
  unfold closureFor
  have := forIn_clos scope.names [] h
  show (forIn scope.names [] _ >>= fun cs => pure cs) = _
  rw [bind_pure]
  rw [← this]
theorem clos_mem {cells : List (Str × Addr)} : ∀ (names : List (Str × NameKind)) (acc : List (Str × Addr)) (n : Str) (c : Addr), (n, c) ∈ clos cells names acc → (n, c) ∈ acc ∨ ((n, .free) ∈ names ∧ c = (cells.lookup n).getD 0)
  | [], acc, n, c, h => .inl h
  | (m, k) :: r, acc, n, c, h => by
    unfold clos at h
    split at h
    · rename_i hk
      rcases clos_mem r _ n c h with q | ⟨q1, q2⟩
      · rcases List.mem_cons.mp q with q | q
        · cases q; exact .inr ⟨by rw [show k = .free by simpa using hk]; exact .head _, rfl⟩
        · exact .inl q
      · exact .inr ⟨.tail _ q1, q2⟩
    · rcases clos_mem r _ n c h with q | ⟨q1, q2⟩
      · exact .inl q
      · exact .inr ⟨.tail _ q1, q2⟩
theorem clos_has {cells : List (Str × Addr)} : ∀ (names : List (Str × NameKind)) (acc : List (Str × Addr)) (n : Str), ((n, .free) ∈ names ∨ ∃ c, (n, c) ∈ acc) → ∃ c, (n, c) ∈ clos cells names acc
  | [], acc, n, h => by
    rcases h with h | h
    · cases h
    · exact h
  | (m, k) :: r, acc, n, h => by
    unfold clos
    split
    · refine clos_has r _ n ?_
      rcases h with h | ⟨c, h⟩
      · rcases List.mem_cons.mp h with q | q
        · cases q; exact .inr ⟨_, .head _⟩
        · exact .inl q
      · exact .inr ⟨c, .tail _ h⟩
    · rename_i hk
      refine clos_has r _ n ?_
      rcases h with h | h
      · rcases List.mem_cons.mp h with q | q
        · cases q; simp at hk
        · exact .inl q
      · exact .inr h
theorem lookup_of_mem {α : Type} : ∀ {l : List (Str × α)} {n : Str} {c : α}, (n, c) ∈ l → ∃ c', l.lookup n = some c'
  | (k, v) :: r, n, c, h => by
    rw [List.lookup_cons]
    cases hb : n == k with
    | true => exact ⟨v, rfl⟩
    | false =>
      rcases List.mem_cons.mp h with e | h
      · cases e; simp at hb
      · exact lookup_of_mem h
theorem clos_lookup {cells : List (Str × Addr)} {names : List (Str × NameKind)} {n : Str} {a : Addr} (h : (n, .free) ∈ names) (hc : cells.lookup n = some a) : (clos cells names []).lookup n = some a := by
  obtain ⟨c, hm⟩ := clos_has (cells := cells) names [] n (.inl h)
  obtain ⟨c', hl⟩ := lookup_of_mem hm
  rw [hl]
  rcases clos_mem names [] n c' (mem_of_lookup hl) with q | ⟨_, q⟩
  · cases q
  · rw [q, hc]; rfl
theorem lookup_relabelS {scope sc : Scope} (x : Str) : (relabelS scope sc).names.lookup x = (scope.names.lookup x).map fun k => if (k == .free && sc.kind == .function && sc.names.lookup x == some .cell) then .cell else k := by
  unfold relabelS
  show List.lookup x (scope.names.map _) = _
  induction scope.names with
  | nil => rfl
  | cons p r ih =>
    obtain ⟨n, k⟩ := p
    show List.lookup x ((if (k == NameKind.free && sc.kind == ScopeKind.function && sc.names.lookup n == some NameKind.cell) = true then (n, NameKind.cell) else (n, k)) :: _) = _
    cases hb : x == n with
    | true =>
      have : x = n := beq_iff_eq.mp hb
      subst this
      by_cases hc : (k == NameKind.free && sc.kind == ScopeKind.function && sc.names.lookup x == some NameKind.cell) = true
      · rw [if_pos hc, List.lookup_cons, List.lookup_cons, hb]; dsimp only [Option.map]; rw [if_pos hc]
      · rw [if_neg hc, List.lookup_cons, List.lookup_cons, hb]; dsimp only [Option.map]; rw [if_neg hc]
    | false =>
      by_cases hc : (k == NameKind.free && sc.kind == ScopeKind.function && sc.names.lookup n == some NameKind.cell) = true
      · rw [if_pos hc, List.lookup_cons, List.lookup_cons, hb]; exact ih
      · rw [if_neg hc, List.lookup_cons, List.lookup_cons, hb]; exact ih

section
variable {B : Base} {H H' : AHeap} {X D D' : Addr → Prop} {h h' : Heap} {env : Env} {ρ ρ' : Loc} {d : Nat} {sc scope : Scope}

structure CompFacts (scope sc : Scope) : Prop where
  kind : scope.kind = .function
  kind' : sc.kind = .function
  names : ∀ p ∈ scope.names, scope.names.lookup p.1 = some p.2
  cell : ∀ p ∈ scope.names, p.2 ≠ .cell
  free : ∀ p ∈ scope.names, p.2 = .free → sc.names.lookup p.1 = some .cell ∨ sc.names.lookup p.1 = some .free
theorem compFacts (h : compOK scope sc = true) : CompFacts scope sc := by
  unfold compOK at h
  simp only [Bool.and_eq_true, beq_iff_eq, List.all_eq_true, Bool.or_eq_true] at h
  obtain ⟨⟨h1, h2⟩, h3⟩ := h
  refine ⟨h1, h2, fun p hp => (h3 p hp).1, fun p hp q => ?_, fun p hp q => ?_⟩
  · rcases (h3 p hp).2 with (z | z) | z
    · rw [q] at z; cases z
    · rw [q] at z; cases z
    · rw [q] at z; cases z.1
  · rcases (h3 p hp).2 with (z | z) | z
    · rw [q] at z; cases z
    · rw [q] at z; cases z
    · exact z.2

/-- the scope of a comprehension and what it sees of the frame around it -/
theorem LRel.comp (F : CompFacts scope sc) (E : EnvOK sc env) (S : SRel B H X h) (L : LRel B (Held H X) X h env ρ) {C : Addr} {X' : Addr → Prop} (hX : ∀ b, X b → X' b) (hC : X' C) (hCn : ¬ X C)
    (hn : h'.Ns C fun _ => none) (hk : ∀ b o, h.get? b = some o → h'.get? b = some o) (kd : KeptD (Held H X) h (Held H X') h') {ρc : Loc} (hs : Sub ρc ρ) (hf : ∀ x a, lget ρc x = some a → scope.names.lookup x = some .free) :
    EnvOK (relabelS scope sc) (compEnvC scope (clos env.cells scope.names []) C env) ∧ LRel B (Held H X') X' h' (compEnvC scope (clos env.cells scope.names []) C env) ρc ∧
    closureFor scope env = pure (clos env.cells scope.names []) := by
  have ek : ∀ y, env.kindOf y = sc.names.lookup y := fun y => by unfold Env.kindOf; rw [E.scope]
  have kc : ∀ y, (compEnvC scope (clos env.cells scope.names []) C env).kindOf y = (scope.names.lookup y).map fun k => if (k == .free && sc.kind == .function && sc.names.lookup y == some .cell) then .cell else k := fun y => by
    show (relabel scope env).names.lookup y = _
    rw [relabel_eq E.scope, lookup_relabelS]
  have memFree : ∀ {x : Str} {k : NameKind}, scope.names.lookup x = some k → (x, k) ∈ scope.names := fun e => mem_of_lookup e
  have hcell : ∀ p ∈ scope.names, p.2 = .free → ∃ c v, env.cells.lookup p.1 = some c ∧ h.IsCell c v := fun p hp q => by
    have := F.free p hp q
    exact L.cells p.1 (by rw [ek]; exact this)
  have hclo : closureFor scope env = pure (clos env.cells scope.names []) := closure_eq fun p hp q => let ⟨c, _, e, _⟩ := hcell p hp q; ⟨c, e⟩
  have cl : ∀ {x : Str} {c : Addr}, (x, c) ∈ clos env.cells scope.names [] → env.cells.lookup x = some c ∧ (x, .free) ∈ scope.names := fun {x c} hm => by
    rcases clos_mem _ _ _ _ hm with q | ⟨q1, q2⟩
    · cases q
    · obtain ⟨c', _, e, _⟩ := hcell _ q1 rfl
      dsimp only at e
      rw [e] at q2; exact ⟨by rw [e, q2]; rfl, q1⟩
  have kfree : ∀ {x : Str}, scope.names.lookup x = some .free → (compEnvC scope (clos env.cells scope.names []) C env).kindOf x = some .cell ∨ (compEnvC scope (clos env.cells scope.names []) C env).kindOf x = some .free := fun {x} e => by
    rw [kc, e]
    dsimp only [Option.map]
    split
    · exact .inl rfl
    · exact .inr rfl
  have freeOf : ∀ {x : Str}, (compEnvC scope (clos env.cells scope.names []) C env).kindOf x = some .cell ∨ (compEnvC scope (clos env.cells scope.names []) C env).kindOf x = some .free → (x, .free) ∈ scope.names := fun {x} e => by
    rw [kc] at e
    cases q : scope.names.lookup x with
    | none => rw [q] at e; rcases e with e | e <;> cases e
    | some k =>
      have hm := memFree q
      have hnc := F.cell _ hm
      rw [q] at e
      dsimp only [Option.map] at e
      have : k = .free := by
        rcases e with e | e
        · by_cases z : (k == NameKind.free && sc.kind == ScopeKind.function && sc.names.lookup x == some NameKind.cell) = true
          · simp only [Bool.and_eq_true, beq_iff_eq] at z; exact z.1.1
          · rw [if_neg z] at e; exact absurd (Option.some.inj e) hnc
        · by_cases z : (k == NameKind.free && sc.kind == ScopeKind.function && sc.names.lookup x == some NameKind.cell) = true
          · rw [if_pos z] at e; cases e
          · rw [if_neg z] at e; exact Option.some.inj e
      rw [← this]; exact hm
  refine ⟨⟨relabel_eq E.scope, F.kind, E.glob, E.blt⟩, ⟨fun b q => ?_, ⟨_, hn, fun x a e k => ?_⟩, fun x a e k => ?_, fun x a e => ?_, fun x k => ?_, fun x y c e1 e2 => ?_, fun x c hm => ?_⟩, hclo⟩
  · rcases q with rfl | ⟨x, hm⟩
    · exact hC
    · exact hX _ (L.own _ (.inr ⟨x, mem_of_lookup (cl hm).1⟩))
  · rcases kfree (hf x a e) with z | z <;> rw [z] at k <;> cases k
  · have hfr := memFree (hf x a e)
    have hk2 := F.free _ hfr rfl
    obtain ⟨c, v, c1, c2, r⟩ := L.cell x a (hs x a e) (by rw [ek]; exact hk2)
    exact ⟨c, v, clos_lookup hfr c1, c2.keeps hk, r.mono kd⟩
  · exact .inr (kfree (hf x a e))
  · obtain ⟨c, v, e, ic⟩ := hcell _ (freeOf k) rfl
    exact ⟨c, v, clos_lookup (freeOf k) e, ic.keeps hk⟩
  · exact L.apart x y c (cl (mem_of_lookup e1)).1 (cl (mem_of_lookup e2)).1
  · exact fun z => hCn (by have z' : c = C := z; rw [← z']; exact L.own c (.inr ⟨x, mem_of_lookup (cl hm).1⟩))

/-! ### the turns of a comprehension -/

noncomputable abbrev testsOf (ifs : List Expr) (env : Env) : Sem Bool := forIn ifs true fun c r => if r = true then do let ok ← isTrue c env (eval c env); pure (ForInStep.yield ok) else pure (ForInStep.yield r)

noncomputable def EmitW (prog : Program) (w : World) (A : Around) (e elt : Expr) (acc : Value) (env : Env) (k : Nat) (Qa : Shared → Prop) : Option Comprehension → Shared → Prop
  | none, s => wpAny (model prog w) A (eval elt env) (fun y s₁ => wpAny (model prog w) A (call (.builtin "list.append") [acc, y]) (fun _ => Qa) Fa s₁) Fa s
  | some g', s => g'.is_async = 0 ∧ (∀ x, foldedSetIterable g'.iter env x = pure x) ∧
      wpAny (model prog w) A (eval g'.iter env) (fun x s₁ => wpAny (model prog w) A (pyIter x) (fun it' s₂ => codeAny (model prog w) A (.compStart e (k + 1) it' acc env) (fun r s' => match r with | .ok _ => Qa s' | .error _ => False) s₂) Fa s₁) Fa s

theorem wp_compTurn {prog : Program} {w : World} {A : Around} {s : Shared} {elt : Expr} {gens : List Comprehension} {scope : Scope} {pos : Pos} {k : Nat} {it acc : Value} {env : Env} {target iter : Expr} {ifs : List Expr} {Qd Qa : Shared → Prop}
    (hg : gens[k]? = some ⟨target, iter, ifs, 0⟩) (ht : ∀ v, letOwnedTupleGo target it v = pure ())
    (turn : wpAny (model prog w) A (pyNext it) (fun r s₁ => match r with
      | none => Qd s₁
      | some v => wpAny (model prog w) A (assign target env v) (fun _ s₂ => wpAny (model prog w) A (testsOf ifs env) (fun ok s₃ =>
          if ok = true then EmitW prog w A (.ListComp elt gens scope pos) elt acc env k Qa gens[k + 1]? s₃ else Qa s₃) Fa s₂) Fa s₁) Fa s) :
    wpAny (model prog w) A (compTurn (.ListComp elt gens scope pos) k it acc env) (fun fin s' => match fin with
      | .done f => f = .next ∧ Qd s'
      | .again c => c = .compLoop (.ListComp elt gens scope pos) k it acc env ∧ Qa s') Fa s := by
  unfold compTurn
  simp only [hg]
  refine wpAny_bind (wpAny_standAt ?_)
  rw [if_neg (by decide)]
  refine wpAny_bind (wpAny_mono turn (fun r s₁ h₁ => ?_) fun _ _ f => f)
  cases r with
  | none => exact wpAny_pure ⟨rfl, h₁⟩
  | some v =>
    dsimp only at h₁ ⊢
    rw [ht]
    refine wpAny_bind (wpAny_pure (wpAny_bind (wpAny_mono h₁ (fun _ s₂ h₂ => wpAny_bind (wpAny_mono h₂ (fun ok s₃ h₃ => ?_) fun _ _ f => f)) fun _ _ f => f)))
    cases ok with
    | false => exact wpAny_pure ⟨rfl, h₃⟩
    | true =>
      simp only [if_true] at h₃ ⊢
      cases hn : gens[k + 1]? with
      | none =>
        rw [hn] at h₃
        exact wpAny_bind (wpAny_bind (wpAny_mono h₃ (fun y s₄ h₄ => wpAny_bind (wpAny_mono h₄ (fun _ s₅ h₅ => wpAny_pure (wpAny_pure ⟨rfl, h₅⟩)) fun _ _ f => f)) fun _ _ f => f))
      | some g' =>
        rw [hn] at h₃
        obtain ⟨ga, gf, h₃⟩ := h₃
        dsimp only
        refine wpAny_bind (wpAny_mono h₃ (fun x s₄ h₄ => wpAny_bind (wpAny_standAt ?_)) fun _ _ f => f)
        rw [ga, if_neg (by decide), gf]
        refine wpAny_bind (wpAny_pure ?_)
        rw [if_neg (by decide)]
        refine wpAny_bind (wpAny_holding (wpAny_mono h₄ (fun it' s₅ h₅ => ?_) fun _ _ f => f))
        refine wpAny_bind (wpAny_runOwn (codeAny_mono h₅ fun r s' hr => ?_))
        cases r with
        | ok f => exact wpAny_pure ⟨rfl, hr⟩
        | error e => exact hr.elim

theorem code_compLoop {prog : Program} {w : World} {A : Around} {s : Shared} {elt : Expr} {gens : List Comprehension} {scope : Scope} {pos : Pos} {k : Nat} {it acc : Value} {env : Env} {target iter : Expr} {ifs : List Expr} {R : Shared → Prop}
    (hg : gens[k]? = some ⟨target, iter, ifs, 0⟩) (ht : ∀ v, letOwnedTupleGo target it v = pure ()) (I : Nat → Shared → Prop)
    (turn : ∀ n s, I n s → wpAny (model prog w) A (pyNext it) (fun r s₁ => match r with
      | none => R s₁
      | some v => wpAny (model prog w) A (assign target env v) (fun _ s₂ => wpAny (model prog w) A (testsOf ifs env) (fun ok s₃ =>
          if ok = true then EmitW prog w A (.ListComp elt gens scope pos) elt acc env k (fun s' => ∃ m, m < n ∧ I m s') gens[k + 1]? s₃ else ∃ m, m < n ∧ I m s₃) Fa s₂) Fa s₁) Fa s)
    (n : Nat) (h : I n s) : codeAny (model prog w) A (.compLoop (.ListComp elt gens scope pos) k it acc env) (fun r s' => match r with | .ok _ => R s' | .error _ => False) s := by
  refine codeAny_loop rfl I (fun n s hI => ?_) n h
  show wpAny _ A ((compTurn (.ListComp elt gens scope pos) k it acc env).onRaise (fun x => do noteFrame x env; theTreesLotGoes x)) _ _ s
  refine wpAny_onRaise (wpAny_mono (wp_compTurn hg ht (turn n s hI)) (fun fin s' hf => ?_) fun _ _ f => f.elim)
  cases fin with
  | done f => exact hf.2
  | again c => exact hf

theorem code_compStart {prog : Program} {w : World} {A : Around} {s : Shared} {elt : Expr} {gens : List Comprehension} {scope : Scope} {pos : Pos} {k : Nat} {it acc : Value} {env : Env} {target iter : Expr} {ifs : List Expr} {R : Result → Shared → Prop}
    (hg : gens[k]? = some ⟨target, iter, ifs, 0⟩) (hself : ∀ Q : Value → Shared → Prop, Q it s → wpAny (model prog w) A (pyIter it) Q Fa s)
    (h : codeAny (model prog w) A (.compLoop (.ListComp elt gens scope pos) k it acc env) R s) : codeAny (model prog w) A (.compStart (.ListComp elt gens scope pos) k it acc env) R s := by
  refine codeAny_of_tree ?_
  show wpAny _ A ((compStart (.ListComp elt gens scope pos) k it acc env).onRaise (fun x => do noteFrame x env; standAt theWindowsPlace)) _ _ s
  refine wpAny_onRaise (wpAny_mono (E := Fa) ?_ (fun _ _ q => q) fun _ _ f => f.elim)
  unfold compStart
  have hc : (clausesOf (.ListComp elt gens scope pos))[k]? = some ⟨target, iter, ifs, 0⟩ := hg
  rw [hc]
  refine wpAny_ite ?_
  split
  · rename_i q; exact absurd q (by simp)
  refine wpAny_bind (wpAny_askSetting (wpAny_ite ?_))
  split
  · first
      | exact wpAny_bind (wpAny_pure (wpAny_pure (And.intro rfl h)))
      | exact wpAny_pure (And.intro rfl h)
  · refine wpAny_bind (wpAny_rule ?_)
    first
      | exact wpAny_bind (wpAny_standAt (wpAny_bind (hself _ (wpAny_pure (And.intro rfl h)))))
      | (dsimp only; exact wpAny_bind (wpAny_standAt (wpAny_bind (hself _ (wpAny_pure (And.intro rfl h))))))
end

section
variable {B : Base} {H H' : AHeap} {X D D' : Addr → Prop} {h h' : Heap} {env : Env} {ρ ρ' : Loc} {d : Nat} {sc scope : Scope}

inductive TurnO (J : Loc → List AVal → AHeap → Prop) (ρ₂ : Loc) (out : List AVal) (H : AHeap) : Prop
  | mk (ρ₃ : Loc) (s : Sub ρ₃ ρ₂) (j : J ρ₃ out H) : TurnO J ρ₂ out H
noncomputable def AccAt (B : Base) (G : Addr → Prop) (h : Heap) (D : Addr) (out : List AVal) : Prop := ∃ vs n, IsL h D (List.toArray vs) n ∧ VRels B G h out vs
theorem AccAt.moved {D : Addr} {out : List AVal} {G G' : Addr → Prop} (a : AccAt B G h D out) (k : KeptD G h G' h') (hd : ∀ o, h.get? D = some o → h'.get? D = some o) : AccAt B G' h' D out :=
  let ⟨vs, n, l, r⟩ := a; ⟨vs, n, hd _ l, r.mono k⟩
noncomputable def KeptC (env : Env) (D : Addr) (H : AHeap) (h : Heap) (H' : AHeap) (h' : Heap) : Prop := ∀ a o, h.get? a = some o → H a = none → a ≠ env.locals → a ≠ D → h'.get? a = some o ∧ H' a = none

/-- what a turn hands on -/
structure Turned (B : Base) (env : Env) (X : Addr → Prop) (D : Addr) (H : AHeap) (s : Shared) (P : Loc → List AVal → AHeap → Prop) (s' : Shared) (ρ' : Loc) (out' : List AVal) (H' : AHeap) : Prop where
  same : SameS s s'
  rel : SRel B H' X s'.heap
  loc : LRel B (Held H' X) X s'.heap env ρ'
  acc : AccAt B (Held H' X) s'.heap D out'
  kept : KeptC env D H s.heap H' s'.heap
  post : P ρ' out' H'

noncomputable def WE (B : Base) (d : Nat) (sc : Scope) (elt : Expr) (gens : List Comprehension) (k : Nat) (ρ : Loc) (out : List AVal) (P : Loc → List AVal → AHeap → Prop) (H : AHeap) : Prop :=
  ∀ (A : Around) (env : Env) (X : Addr → Prop) (s : Shared) (D : Addr) (scope : Scope) (pos : Pos) (Qa : Shared → Prop), Room d A → EnvOK sc env → SRel B H X s.heap → LRel B (Held H X) X s.heap env ρ → X D → ¬ Own env D →
    AccAt B (Held H X) s.heap D out → (∀ s' ρ' out' H', Turned B env X D H s P s' ρ' out' H' → Qa s') → EmitW B.prog B.w A (.ListComp elt gens scope pos) elt (.ref D) env k Qa gens[k + 1]? s
noncomputable def WT (B : Base) (d : Nat) (sc : Scope) (ρ : Loc) (ifs : List Expr) (Q : Bool → AHeap → Prop) (H : AHeap) : Prop :=
  ∀ (A : Around) (env : Env) (X : Addr → Prop) (s : Shared), Room d A → EnvOK sc env → SRel B H X s.heap → LRel B (Held H X) X s.heap env ρ → wpAny (model B.prog B.w) A (testsOf ifs env) (OkB B H X s Q) Fa s
theorem WT_nil {Q : Bool → AHeap → Prop} (q : Q true H) : WT B d sc ρ [] Q H := fun A env X s R E S L => wpAny_tests_nil ⟨H, S, Step.refl _ _, q⟩
theorem WT_one {c : Expr} {Q : Bool → AHeap → Prop} (h : WB B d sc ρ c Q H) : WT B d sc ρ [c] Q H := fun A env X s R E S L => wpAny_tests_one (h A env X s R E S L)

theorem KeptC.of {s s' : Shared} {D : Addr} (k : Kept H s.heap H' s'.heap) : KeptC env D H s.heap H' s'.heap := fun a o e i _ _ => k a o e i

theorem WE_last {elt : Expr} {gens : List Comprehension} {k : Nat} {out : List AVal} {P : Loc → List AVal → AHeap → Prop} (hg : gens[k + 1]? = none)
    (h : W B d sc ρ elt (fun y H₁ => out.length ≤ 100000 ∧ P ρ (out ++ [y]) H₁) H) : WE B d sc elt gens k ρ out P H := fun A env X s D scope pos Qa R E S L hXD hD acc q => by
  rw [hg]
  refine monoOk (h A env X s R E S L) fun u s₁ ⟨y, H₁, r₁, S₁, t₁, hz, p⟩ => ?_
  obtain ⟨vs, n, hL, f⟩ := acc
  have hL₁ : IsL s₁.heap D vs.toArray n := (t₁.2 D _ hL (S.hid D hXD).1).1
  have f₁ := f.mono t₁.2.held
  refine call_meets PySem.F.slot_list_append ⟨_, hL₁, rfl⟩ PySem.F.entry_list_append (PySem.F.args_list_append_2 _ _) (list_append D vs.toArray n u (by rw [List.size_toArray, f.1, sizeLine_eq]; lia)) ⟨hL₁, ?_⟩
  have nb : ∀ b o, s₁.heap.get? b = some o → b ≠ D → (s₁.heap.update D (Obj.mapSeq fun x => x.push u)).get? b = some o := fun b o e hb => (Heap.get?_update_other _ _ (Ne.symm hb)).trans e
  have hup := hL₁.update fun x => x.push u
  have kd : KeptD (Held H₁ X) s₁.heap (Held H₁ X) (s₁.heap.update D (Obj.mapSeq fun x => x.push u)) := fun b o e i => ⟨nb b o e fun z => i (.inr (z ▸ hXD)), i⟩
  have S₂ : SRel B H₁ X (s₁.heap.update D (Obj.mapSeq fun x => x.push u)) := S₁.moved (fun b o e i => nb b o e fun z => i (z ▸ hXD)) fun b q => by
    by_cases hb : b = D
    · rw [hb]; exact ⟨_, hup⟩
    · obtain ⟨_, o, e⟩ := S₁.hid b q; exact ⟨o, nb b o e hb⟩
  obtain ⟨h₁, tk, rfl⟩ := t₁.1
  refine q _ ρ (out ++ [y]) H₁ ⟨⟨_, _, rfl⟩, S₂, (L.kept S t₁.2).moved kd fun b o o' e => nb b o e fun z => hD (z ▸ o'), ⟨vs ++ [u], if ((vs.toArray.push u).size == vs.toArray.size) = true then n else n + 1, ?_, (f₁.append (VRels.cons r₁ .nil)).mono kd⟩, fun a o e i _ na => ?_, p⟩
  · have : vs.toArray.push u = (vs ++ [u]).toArray := by simp
    rw [this] at hup ⊢; exact hup
  · have k := t₁.2 a o e i
    exact ⟨nb a o k.1 na, k.2⟩

/-- the store of a comprehension's own variable -/
theorem store_local {A : Around} {s : Shared} {x : Str} {px : Pos} {a : AVal} {v : Value} (E : EnvOK sc env) (S : SRel B H X s.heap) (L : LRel B (Held H X) X s.heap env ρ) (r : VRel B (Held H X) s.heap a v) (hx : sc.names.lookup x = some .local) :
    wpAny (model B.prog B.w) A (assign (.Name x px) env v) (fun _ s' => SameS s s' ∧ SRel B H X s'.heap ∧ LRel B (Held H X) X s'.heap env (lset ρ x a) ∧
      (∀ b o, s.heap.get? b = some o → b ≠ env.locals → s'.heap.get? b = some o)) Fa s := by
  have hk : env.scope.kind = .function := E.scope ▸ E.kind
  have ek : ∀ y, env.kindOf y = sc.names.lookup y := fun y => by unfold Env.kindOf; rw [E.scope]
  refine wpAny_assign_Name ?_
  obtain ⟨m, n, f⟩ := L.ns
  have k' : env.kindOf x = some .local := (ek x).trans hx
  refine wpAny_storeName_local k' n (fun h' hn' hs' => ?_) (by rw [hk]; rfl)
  obtain ⟨S', L', K'⟩ := L.store (x := x) (v := v) S (.inl rfl) hs' (let ⟨o, es, ep, e, _⟩ := hn'; ⟨o, e⟩) ⟨_, hn', fun y hy _ m₂ n₂ => by
    rw [if_neg hy]
    obtain ⟨o, es, ep, e1, e2, _, e3⟩ := n
    obtain ⟨o', es', ep', f1, f2, _, f3⟩ := n₂
    rw [e1] at f1; cases f1; rw [e2] at f2; cases f2
    rw [← e3, f3], fun _ => if_pos rfl⟩ (fun y c' u e c2 => by
      rw [if_neg fun z => z.1 k']
      exact c2.sameBut hs' (L.off y c' (mem_of_lookup e))) (.inl k') r
  exact ⟨⟨_, _, rfl⟩, S', L', fun b o e hb => (hs'.2 b hb).trans e⟩

noncomputable def KeptL (env : Env) (D I : Addr) (H : AHeap) (h : Heap) (H₂ : AHeap) (h₂ : Heap) : Prop := ∀ a o, h.get? a = some o → H a = none → a ≠ env.locals → a ≠ D → a ≠ I → h₂.get? a = some o ∧ H₂ a = none
inductive CompInv (B : Base) (env : Env) (D I : Addr) (X X' : Addr → Prop) (H : AHeap) (s : Shared) (N : Nat) (St : Nat → Heap → Prop) (J : Nat → Loc → List AVal → AHeap → Prop) (n : Nat) (s' : Shared) : Prop
  | mk (i : Nat) (ρ₁ : Loc) (out₁ : List AVal) (H₂ : AHeap) (hn : n = N + 1 - i) (hi : i ≤ N) (sm : SameS s s') (S : SRel B H₂ X' s'.heap) (L : LRel B (Held H₂ X') X s'.heap env ρ₁) (acc : AccAt B (Held H₂ X') s'.heap D out₁)
      (ke : KeptL env D I H s.heap H₂ s'.heap) (kd : KeptD (Held H X') s.heap (Held H₂ X') s'.heap) (st : St i s'.heap) (j : J i ρ₁ out₁ H₂) : CompInv B env D I X X' H s N St J n s'
theorem comp_loop {A : Around} {s : Shared} {elt iter : Expr} {gens : List Comprehension} {pos : Pos} {k : Nat} {x : Str} {px : Pos} {ifs : List Expr} {D I ax : Addr} {xs out : List AVal} {Rf : Shared → Prop}
    {PP : Nat → Value → Prop} {St : Nat → Heap → Prop} (hg : gens[k]? = some ⟨.Name x px, iter, ifs, 0⟩) (hx : sc.names.lookup x = some .local) (J : Nat → Loc → List AVal → AHeap → Prop)
    (R : Room d A) (E : EnvOK sc env) (S : SRel B H (fun b => X b ∨ b = I) s.heap) (L : LRel B (Held H fun b => X b ∨ b = I) X s.heap env ρ) (hXD : X D) (hXI : ¬ X I) (hD : ¬ Own env D) (acc : AccAt B (Held H fun b => X b ∨ b = I) s.heap D out)
    (WK : Walks B.prog B.w A I [I, ax] [I] xs.length PP St) (st0 : St 0 s.heap) (hax : ¬ Held H (fun b => X b ∨ b = I) ax) (eax : ∃ o, s.heap.get? ax = some o)
    (hP : ∀ i u y, PP i u → xs[i]? = some y → VRel B (Held H fun b => X b ∨ b = I) s.heap y u) (hSt : ∀ i h, St i h → ∃ o, h.get? I = some o) (j0 : J 0 ρ out H)
    (step : ∀ i y ρ₁ out₁ H₂, xs[i]? = some y → J i ρ₁ out₁ H₂ → WT B d sc (lset ρ₁ x y) ifs (fun c H₃ =>
      (c = true → WE B d sc elt gens k (lset ρ₁ x y) out₁ (TurnO (J (i + 1))) H₃) ∧ (c = false → TurnO (J (i + 1)) (lset ρ₁ x y) out₁ H₃)) H₂)
    (fin : ∀ s' ρ₁ out₁ H₂, SameS s s' → SRel B H₂ X s'.heap → LRel B (Held H₂ X) X s'.heap env ρ₁ → AccAt B (Held H₂ X) s'.heap D out₁ →
      KeptL env D I H s.heap H₂ s'.heap → J xs.length ρ₁ out₁ H₂ → Rf s') :
    codeAny (model B.prog B.w) A (.compLoop (.ListComp elt gens scope pos) k (.ref I) (.ref D) env) (fun r s' => match r with | .ok _ => Rf s' | .error _ => False) s := by
  let X' : Addr → Prop := fun b => X b ∨ b = I
  have ownX : ∀ b, Own env b → X b := L.own
  have ownNe : ∀ b, Own env b → b ≠ I := fun b q z => hXI (z ▸ ownX b q)
  have hDI : D ≠ I := fun z => hXI (z ▸ hXD)
  have locX : X env.locals := ownX _ (.inl rfl)
  have up : ∀ {G h ρ}, LRel B G X h env ρ → LRel B G X' h env ρ := fun l => ⟨fun b q => .inl (l.own b q), l.ns, l.cell, l.kind, l.cells, l.apart, l.off⟩
  refine code_compLoop hg (fun _ => rfl)
    (CompInv B env D I X X' H s xs.length St J)
    ?_ (xs.length + 1) ⟨0, ρ, out, H, rfl, Nat.zero_le _, ⟨_, _, rfl⟩, S, L, acc, fun a o e i _ _ _ => ⟨e, i⟩, KeptD.refl _ _, st0, j0⟩
  rintro n s' ⟨i, ρ₁, out₁, H₂, rfl, hi, ⟨h', tk, rfl⟩, S', L', acc', ke, kd, st, jj⟩
  refine wpAny_mono (pull_of WK hi st) ?_ (fun _ _ f => f.elim)
  · intro r s₂ hr
    cases hr with
    | done h'' tk' e hk =>
      subst e
      obtain ⟨S'', kdd⟩ := S'.pulled hXI hk
      exact fin _ ρ₁ out₁ H₂ ⟨_, _, rfl⟩ S'' (L'.moved kdd fun b o q e => hk b o (ownNe b q) e) (acc'.moved kdd fun o e => hk D o hDI e) (fun a o e i n1 n2 n3 => by
        have k := ke a o e i n1 n2 n3; exact ⟨hk a o n3 k.1, k.2⟩) jj
    | item u h'' tk' hlt hk p st' =>
      have hy : xs[i]? = some xs[i] := by simp [hlt]
      obtain ⟨S'', kd'⟩ := S'.pull1 (hSt _ _ st') hk
      have L'' : LRel B (Held H₂ X') X' h'' env ρ₁ := up (L'.moved kd' fun b o q e => hk b o (ownNe b q) e)
      have ru : VRel B (Held H₂ X') h'' xs[i] u := ((hP i u xs[i] p hy).mono kd).mono kd'
      have acc'' : AccAt B (Held H₂ X') h'' D out₁ := acc'.moved kd' fun o e => hk D o hDI e
      refine wpAny_mono (store_local (s := { s with heap := h'', toks := tk' }) E S'' L'' ru hx) ?_ (fun _ _ f => f.elim)
      rintro _ s₃ ⟨⟨h3, tk3, rfl⟩, S₃, L₃, k₃⟩
      have kd3 : KeptD (Held H₂ X') h'' (Held H₂ X') h3 := fun b o e i => ⟨k₃ b o e fun z => i (.inr (.inl (z ▸ locX))), i⟩
      have hDL : D ≠ env.locals := fun z => hD (.inl z)
      refine wpAny_mono (step i xs[i] ρ₁ out₁ H₂ hy jj A env X' _ R E S₃ L₃) ?_ (fun _ _ f => f.elim)
      rintro c s₄ ⟨H₃, S₄, t₄, q1, q2⟩
      obtain ⟨⟨h4, tk4, rfl⟩, k₄⟩ := t₄
      have L₄ := L₃.kept S₃ k₄
      have acc₄ : AccAt B (Held H₃ X') h4 D out₁ := (acc''.moved kd3 fun o e => k₃ D o e hDL).moved k₄.held fun o e => (k₄ D o e (S₃.hid D (.inl hXD)).1).1
      have kd4 : KeptD (Held H X') s.heap (Held H₃ X') h4 := ((kd.trans kd').trans kd3).trans k₄.held
      have ke4 : KeptL env D I H s.heap H₃ h4 := fun a o e i n1 n2 n3 => by
        have k := ke a o e i n1 n2 n3
        exact k₄ a o (k₃ a o (hk a o n3 k.1) n1) k.2
      have fpk : ∀ b ∈ [I, ax], b ≠ env.locals ∧ b ≠ D ∧ H₂ b = none := fun b hb => by
        rcases List.mem_cons.mp hb with z | z
        · exact ⟨fun q => ownNe _ (.inl rfl) (q ▸ z), fun q => hDI (q ▸ z), z ▸ (S''.hid I (.inr rfl)).1⟩
        · have z' : b = ax := by simpa using z
          obtain ⟨oax, eax⟩ := eax
          refine ⟨fun q => hax (.inr (.inl (by rw [← z', q]; exact locX))), fun q => hax (.inr (.inl (by rw [← z', q]; exact hXD))), ?_⟩
          have := kd ax oax eax hax
          rw [z']; exact Held.none this.2
      have st4 : St (i + 1) h4 := WK.frame _ _ _ st' fun b hb o e => by
        obtain ⟨n1, n2, n3⟩ := fpk b hb
        exact (k₄ b o (k₃ b o e n1) n3).1
      cases c with
      | false =>
        obtain ⟨ρ₃, hs, j⟩ := q2 rfl
        simp only [Bool.false_eq_true, if_false]
        refine ⟨xs.length + 1 - (i + 1), by lia, i + 1, ρ₃, out₁, H₃, rfl, hlt, ⟨_, _, rfl⟩, S₄, ?_, acc₄, ke4, kd4, st4, j⟩
        have l := L₄.sub hs
        exact ⟨ownX, l.ns, l.cell, l.kind, l.cells, l.apart, l.off⟩
      | true =>
        simp only [if_true]
        refine q1 rfl A env X' _ D scope pos _ R E S₄ L₄ (.inl hXD) hD acc₄ ?_
        rintro s₅ ρ₅ out₅ H₅ ⟨⟨h5, tk5, rfl⟩, S₅, L₅, acc₅, k₅, ρ₃, hs, j⟩
        have kd5 : KeptD (Held H₃ X') h4 (Held H₅ X') h5 := fun b o e i =>
          have k := k₅ b o e (Held.none i) (fun z => i (.inr (.inl (z ▸ locX)))) (fun z => i (.inr (.inl (z ▸ hXD))))
          ⟨k.1, fun q => q.elim (fun z => z k.2) fun z => i (.inr z)⟩
        refine ⟨xs.length + 1 - (i + 1), by lia, i + 1, ρ₃, out₅, H₅, rfl, hlt, ⟨_, _, rfl⟩, S₅, ?_, acc₅, fun a o e i n1 n2 n3 => ?_, kd4.trans kd5, ?_, j⟩
        · have l := L₅.sub hs
          exact ⟨ownX, l.ns, l.cell, l.kind, l.cells, l.apart, l.off⟩
        · have k := ke4 a o e i n1 n2 n3
          exact k₅ a o k.1 k.2 n1 n2
        · refine WK.frame _ _ _ st4 fun b hb o e => ?_
          obtain ⟨n1, n2, n3⟩ := fpk b hb
          have n3' : H₃ b = none := by
            rcases List.mem_cons.mp hb with z | z
            · exact z ▸ (S₄.hid I (.inr rfl)).1
            · have z' : b = ax := by simpa using z
              obtain ⟨oax, eax⟩ := eax
              rw [z']; exact Held.none (kd4 ax oax eax hax).2
          exact (k₅ b o e n3' n1 n2).1
end

section
variable {B : Base} {H H' : AHeap} {X D D' : Addr → Prop} {h h' : Heap} {env : Env} {ρ ρ' : Loc} {d : Nat} {sc scope : Scope}

/-- what a clause's turns hand on, its source known -/
noncomputable def Clause (B : Base) (d : Nat) (sc : Scope) (elt : Expr) (gens : List Comprehension) (k : Nat) (x : Str) (ifs : List Expr) (J : Nat → Loc → List AVal → AHeap → Prop) (xs : List AVal) : Prop :=
  ∀ i y ρ₁ out₁ H₂, xs[i]? = some y → J i ρ₁ out₁ H₂ → WT B d sc (lset ρ₁ x y) ifs (fun c H₃ =>
      (c = true → WE B d sc elt gens k (lset ρ₁ x y) out₁ (TurnO (J (i + 1))) H₃) ∧ (c = false → TurnO (J (i + 1)) (lset ρ₁ x y) out₁ H₃)) H₂

theorem WE_next {elt iter : Expr} {gens : List Comprehension} {k : Nat} {out : List AVal} {P : Loc → List AVal → AHeap → Prop} {x : Str} {px : Pos} {ifs : List Expr} (J : Nat → Loc → List AVal → AHeap → Prop)
    (hg : gens[k + 1]? = some ⟨.Name x px, iter, ifs, 0⟩) (hx : sc.names.lookup x = some .local) (hse : ∀ env y, foldedSetIterable iter env y = pure y)
    (h : W B d sc ρ iter (fun a H₁ => ∃ xs ρ₀, Iter a xs ∧ Sub ρ₀ ρ ∧ J 0 ρ₀ out H₁ ∧ Clause B d sc elt gens (k + 1) x ifs J xs ∧ (∀ ρ₁ out₁ H₂, J xs.length ρ₁ out₁ H₂ → P ρ₁ out₁ H₂)) H) :
    WE B d sc elt gens k ρ out P H := fun A env X s D scope pos Qa R E S L hXD hD acc q => by
  rw [hg]
  refine ⟨rfl, hse env, monoOk (h A env X s R E S L) fun v s₁ ⟨a, H₁, r₁, S₁, t₁, xs, ρ₀, it, hsub, j0, step, fin⟩ => ?_⟩
  obtain ⟨oI, ax, P', St, hof, hiter, WK, st0, hax, ⟨oax, eax⟩, hP, hSt, hself⟩ := iter_of (B := B) (A := A) R.handled r₁ it
  refine hiter _ ?_
  let I := s₁.heap.objs.size
  have L₁ := (L.kept S t₁.2).sub hsub
  have S₂ : SRel B H₁ (fun b => X b ∨ b = I) (s₁.heap.push oI) := S₁.hide oI hof
  have kd₀ : KeptD (Held H₁ X) s₁.heap (Held H₁ fun b => X b ∨ b = I) (s₁.heap.push oI) := fun b o e i =>
    ⟨Heap.get?_push_of_some _ e, fun q => q.elim (fun z => i (.inl z)) fun z => z.elim (fun z => i (.inr z)) fun z => Nat.ne_of_lt (Heap.lt_size e) z⟩
  have L₂ : LRel B (Held H₁ fun b => X b ∨ b = I) X (s₁.heap.push oI) env ρ₀ := L₁.moved kd₀ fun b o _ e => Heap.get?_push_of_some _ e
  have accd : AccAt B (Held H₁ fun b => X b ∨ b = I) (s₁.heap.push oI) D out :=
    (acc.moved t₁.2.held fun o e => (t₁.2 D o e (S.hid D hXD).1).1).moved kd₀ fun o e => Heap.get?_push_of_some _ e
  refine code_compStart hg (fun Q q => hself 0 _ Q st0 q) ?_
  refine comp_loop (s := { s₁ with heap := s₁.heap.push oI }) hg hx J R E S₂ L₂ hXD (fun z => S₁.fresh (.inr z)) hD accd WK st0 (fun z => (kd₀ ax oax eax hax).2 z) ⟨oax, Heap.get?_push_of_some _ eax⟩
    (fun i u y p e => (hP i u y p e).mono kd₀) hSt j0 step ?_
  rintro s' ρ₁ out₁ H₂ ⟨h', tk, rfl⟩ S' L' acc' ke j
  obtain ⟨⟨h1, tk1, rfl⟩, k₁⟩ := t₁
  refine q _ ρ₁ out₁ H₂ ⟨⟨h', tk, rfl⟩, S', L', acc', fun b o e i n1 n2 => ?_, fin _ _ _ j⟩
  have k := k₁ b o e i
  exact ke b o (Heap.get?_push_of_some _ k.1) k.2 n1 n2 (Nat.ne_of_lt (Heap.lt_size k.1))

/-- the source of a comprehension and its clauses -/
inductive CompSrcOK (B : Base) (d : Nat) (sc : Scope) (ρ : Loc) (scope : Scope) (elt : Expr) (x : Str) (px : Pos) (iter : Expr) (ifs : List Expr) (gens : List Comprehension) (QQ : List AVal → AHeap → Prop) (a : AVal) (H₁ : AHeap) : Prop
  | mk (xs : List AVal) (ρc : Loc) (J : Nat → Loc → List AVal → AHeap → Prop) (it : Iter a xs) (sb : Sub ρc ρ) (fr : ∀ x a, lget ρc x = some a → scope.names.lookup x = some .free) (j0 : J 0 ρc [] H₁)
      (cl : Clause B d (relabelS scope sc) elt (⟨.Name x px, iter, ifs, 0⟩ :: gens) 0 x ifs J xs) (fin : ∀ ρ₁ out₁ H₂, J xs.length ρ₁ out₁ H₂ → QQ out₁ H₂) : CompSrcOK B d sc ρ scope elt x px iter ifs gens QQ a H₁

/-- a whole comprehension, up to what is done with its list -/
theorem comp_go {A : Around} {s : Shared} {elt iter : Expr} {gens : List Comprehension} {pos fpos : Pos} {x : Str} {px : Pos} {ifs : List Expr} {use : Option (Value → Sem Unit)} {Qf : Value → Shared → Prop} {QQ : List AVal → AHeap → Prop}
    (R : Room d A) (E : EnvOK sc env) (S : SRel B H X s.heap) (L : LRel B (Held H X) X s.heap env ρ) (hc : compOK scope sc = true) (hx : scope.names.lookup x = some .local) (hse : ∀ env y, foldedSetIterable iter env y = pure y)
    (h : W B d sc ρ iter (CompSrcOK B d sc ρ scope elt x px iter ifs gens QQ) H)
    (fin : ∀ D C s' out H₂, SameS s s' → SRel B H₂ (fun b => X b ∨ b = C) s'.heap → VRel B (Held H₂ fun b => X b ∨ b = C) s'.heap (.lst out) (.ref D) → Kept H s.heap H₂ s'.heap →
      (∀ o, s.heap.get? C = some o → H C = none → False) → ¬ X C → (∃ m, s'.heap.Ns C m) → QQ out H₂ → compPost (model B.prog B.w) A Fa use Qf (.ref D) C (.ok .next) s') :
    wpAny (model B.prog B.w) A (comprehension (.ListComp elt (⟨.Name x px, iter, ifs, 0⟩ :: gens) scope pos) scope env fpos (newList []) false (eval iter env) use) Qf Fa s := by
  have F := compFacts hc
  have hcell : ∀ p ∈ scope.names, p.2 = .free → ∃ c, env.cells.lookup p.1 = some c := fun p hp q => by
    have ek : ∀ y, env.kindOf y = sc.names.lookup y := fun y => by unfold Env.kindOf; rw [E.scope]
    obtain ⟨c, v, e, _⟩ := L.cells p.1 (by rw [ek]; exact F.free p hp q)
    exact ⟨c, e⟩
  refine wpAny_comprehension_free (g := ⟨.Name x px, iter, ifs, 0⟩) (gs := gens) rfl (hse env) (closure_eq hcell) F.kind (fun p hp q => by rw [F.names p hp, q]) ?_
  refine monoOk (h A env X s R E S L) fun v s₁ ⟨a, H₁, r₁, S₁, t₁, xs, ρc, J, it, hsub, hfr, j0, step, jfin⟩ => ?_
  obtain ⟨oI, ax, P', St, hof, hiter, WK, st0, hax, ⟨oax, eax⟩, hP, hSt, hself⟩ := iter_of (B := B) (A := A) R.handled r₁ it
  refine hiter _ ?_
  refine wpAny_newObj_type (wpAny_newFunctionEnv F.cell (by intro y hy; simp at hy) (fun h₁ hns₁ hsb₁ => ?_) F.kind)
  dsimp only at hns₁ hsb₁ ⊢
  have L₁ := L.kept S t₁.2
  generalize hI : s₁.heap.objs.size = I at *
  generalize hHI : s₁.heap.push oI = HI at *
  have hD : HI.objs.size = I + 1 := by rw [← hHI, Heap.size_push, hI]
  have SI : SRel B H₁ (fun b => X b ∨ b = I) HI := by rw [← hHI, ← hI]; exact S₁.hide oI hof
  have SD : SRel B H₁ (fun b => (X b ∨ b = I) ∨ b = HI.objs.size) (HI.push { cls := .type "list", dict := none, data := .seq ([] : List Value).toArray }) := SI.hide _ rfl
  have hCs : (HI.push { cls := .type "list", dict := none, data := .seq ([] : List Value).toArray }).objs.size = I + 2 := by rw [Heap.size_push, hD]
  have accD : (HI.push { cls := .type "list", dict := none, data := .seq ([] : List Value).toArray }).get? HI.objs.size = some { cls := .type "list", dict := none, data := .seq ([] : List Value).toArray } := Heap.get?_push_size _ rfl
  have upI : ∀ b o, s₁.heap.get? b = some o → HI.get? b = some o := fun b o e => hHI ▸ Heap.get?_push_of_some _ e
  have upD : ∀ b o, HI.get? b = some o → (HI.push { cls := .type "list", dict := none, data := .seq ([] : List Value).toArray }).get? b = some o := fun b o e => Heap.get?_push_of_some _ e
  generalize hHD : HI.push { cls := .type "list", dict := none, data := .seq ([] : List Value).toArray } = HD at *
  have SC : SRel B H₁ (fun b => ((X b ∨ b = I) ∨ b = HI.objs.size) ∨ b = HD.objs.size) (HD.push { cls := .type (if (some env).isSome then "dict" else "frame"), data := .dict #[] }) := SD.hide _ rfl
  have upC : ∀ b o, HD.get? b = some o → h₁.get? b = some o := fun b o e => hsb₁.extBut b o (Nat.ne_of_lt (Heap.lt_size e)) (Heap.get?_push_of_some _ e)
  generalize hDD : HI.objs.size = DA at *
  generalize hCC : HD.objs.size = CA at *
  have eDA : DA = I + 1 := hD
  have eCA : CA = I + 2 := hCs

  have fr : ∀ b, I ≤ b → s₁.heap.get? b = none := fun b hb => by
    cases e : s₁.heap.get? b with
    | none => rfl
    | some o => exact absurd (Heap.lt_size e) (by rw [hI]; exact Nat.not_lt.mpr hb)
  have nX : ∀ b, I ≤ b → ¬ X b := fun b hb z => S₁.unheld (fr b hb) (.inr z)
  have hIle : I ≤ I := Nat.le_refl _
  have SC' : SRel B H₁ (fun b => ((X b ∨ b = I) ∨ b = DA) ∨ b = CA) h₁ := SC.moved (fun b o e n => hsb₁.extBut b o (fun z => n (.inr z)) e) fun b q => by
    by_cases hb : b = CA
    · obtain ⟨o, es, ep, e, _⟩ := hns₁; exact ⟨o, hb ▸ e⟩
    · obtain ⟨_, o, e⟩ := SC.hid b q; exact ⟨o, hsb₁.extBut b o hb e⟩
  have SF : SRel B H₁ (fun b => ((X b ∨ b = DA) ∨ b = CA) ∨ b = I) h₁ := SC'.show fun b q => by
    rcases q with ((q | q) | q) | q
    · exact .inl (.inl (.inl q))
    · exact .inl (.inr q)
    · exact .inr q
    · exact .inl (.inl (.inr q))
  have up : ∀ b o, s₁.heap.get? b = some o → h₁.get? b = some o := fun b o e => upC b o (upD b o (upI b o e))
  have kd : KeptD (Held H₁ X) s₁.heap (Held H₁ fun b => ((X b ∨ b = DA) ∨ b = CA) ∨ b = I) h₁ := fun b o e i => ⟨up b o e, fun q => by
    have hlt : @LT.lt Nat _ b I := by rw [← hI]; exact Heap.lt_size e
    rcases q with q | ((q | q) | q) | q
    · exact i (.inl q)
    · exact i (.inr q)
    · have q' : @Eq Nat b DA := q; lia
    · have q' : @Eq Nat b CA := q; lia
    · have q' : @Eq Nat b I := q; lia⟩
  obtain ⟨E₂, L₂, hclo⟩ := LRel.comp (scope := scope) (C := CA) F E S₁ L₁ (X' := fun b => ((X b ∨ b = DA) ∨ b = CA) ∨ b = I) (fun b q => .inl (.inl (.inl q))) (.inl (.inr rfl)) (nX CA (by lia)) hns₁ up kd hsub hfr
  have L₃ : LRel B (Held H₁ fun b => ((X b ∨ b = DA) ∨ b = CA) ∨ b = I) (fun b => (X b ∨ b = DA) ∨ b = CA) h₁ (compEnvC scope (clos env.cells scope.names []) CA env) ρc := by
    refine ⟨fun b q => ?_, L₂.ns, L₂.cell, L₂.kind, L₂.cells, L₂.apart, L₂.off⟩
    have z := L₂.own b q
    rcases z with z | z
    · exact z
    · exfalso
      rcases q with q | ⟨y, q⟩
      · have z1 : @Eq Nat b CA := q; have z2 : @Eq Nat b I := z; lia
      · rcases clos_mem _ _ _ _ q with q | ⟨q1, q2⟩
        · cases q
        · obtain ⟨c, e⟩ := hcell _ q1 rfl
          dsimp only at e
          rw [e] at q2
          have : c = I := by rw [← z, q2]; rfl
          have := L₁.own c (.inr ⟨y, mem_of_lookup e⟩)
          exact nX I hIle (by rw [← ‹c = I›]; exact this)
  have hownD : ¬ Own (compEnvC scope (clos env.cells scope.names []) CA env) DA := fun q => by
    rcases q with q | ⟨y, q⟩
    · have : @Eq Nat DA CA := q; lia
    · rcases clos_mem _ _ _ _ q with q | ⟨q1, q2⟩
      · cases q
      · obtain ⟨c, e⟩ := hcell _ q1 rfl
        dsimp only at e
        rw [e] at q2
        have hc' : DA = c := q2
        exact nX DA (by lia) (hc' ▸ L₁.own c (.inr ⟨y, mem_of_lookup e⟩))
  have hxr : (relabelS scope sc).names.lookup x = some .local := by rw [lookup_relabelS, hx]; rfl
  have st1 : St 0 h₁ := WK.frame _ _ _ st0 fun b _ o e => upC b o (upD b o e)
  refine code_compStart (s := { s₁ with heap := h₁, toks := s₁.toks + ([] : List (Str × Value)).length }) rfl (fun Q q => hself 0 _ Q st1 q) ?_
  refine codeAny_mono (comp_loop (s := { s₁ with heap := h₁, toks := s₁.toks + ([] : List (Str × Value)).length }) (k := 0) (xs := xs) (out := []) (Rf := compPost (model B.prog B.w) A Fa use Qf (.ref DA) CA (.ok .next)) rfl hxr J R E₂ SF L₃ (.inl (.inr rfl)) ?_ hownD ⟨[], 0, upC _ _ accD, .nil⟩ WK st1 (kd ax oax eax hax).2 ⟨oax, up _ _ eax⟩
    (fun i u y p e => (hP i u y p e).mono kd) hSt j0 step ?_) ?_
  · rintro ((z | z) | z)
    · exact nX I hIle z
    · have q' : @Eq Nat I DA := z; lia
    · have q' : @Eq Nat I CA := z; lia
  · rintro s' ρ₁ out₁ H₂ ⟨h', tk, rfl⟩ S' L' ⟨vs, n, aL, aR⟩ ke j
    obtain ⟨⟨h1, tk1, rfl⟩, k₁⟩ := t₁
    have hDC : DA ≠ CA := Nat.ne_of_lt (by lia)
    have kd2 : KeptD (Held H₂ fun b => (X b ∨ b = DA) ∨ b = CA) h' (Held H₂ fun b => X b ∨ b = CA) h' := KeptD.weaken fun b q => q.imp id fun z => z.elim (fun z => .inl (.inl z)) .inr
    refine fin DA CA _ out₁ H₂ ⟨_, _, rfl⟩ (S'.show fun b q => q.elim (fun z => .inl (.inl z)) .inr) ?_ (fun b o e i => ?_) ?_ (nX CA (by lia)) (let ⟨m, n, _⟩ := L'.ns; ⟨m, n⟩) (jfin _ _ _ j)
    · have aR' := aR.mono kd2
      refine .lst aL (fun q => ?_) aR'.1 aR'.2
      rcases q with q | q | q
      · exact q (S'.hid DA (.inl (.inr rfl))).1
      · exact nX DA (by lia) q
      · exact hDC q
    · have k := k₁ b o e i
      have hlt' : @LT.lt Nat _ b I := by rw [← hI]; exact Heap.lt_size k.1
      exact ke b o (up b o k.1) k.2 (Nat.ne_of_lt (show @LT.lt Nat _ b CA by lia)) (Nat.ne_of_lt (show @LT.lt Nat _ b DA by lia)) (Nat.ne_of_lt (show @LT.lt Nat _ b I from hlt'))
    · intro o e q
      have := (k₁ CA o e q).1
      rw [fr CA (by lia)] at this; cases this
  · have hr' : ∀ {s'} f, compPost (model B.prog B.w) A Fa use Qf (.ref DA) CA (.ok .next) s' → compPost (model B.prog B.w) A Fa use Qf (.ref DA) CA (.ok f) s' := fun f q => by cases use <;> exact q
    intro r s' hr
    cases r with
    | ok f => exact hr' _ hr
    | error e => exact hr.elim
end

section
variable {B : Base} {H H' : AHeap} {X D D' : Addr → Prop} {h h' : Heap} {env : Env} {ρ ρ' : Loc} {d : Nat} {sc scope : Scope}

theorem SRel.letGo {C : Addr} (S : SRel B H (fun b => X b ∨ b = C) h) (hC : ¬ X C) (hs : Heap.SameBut C h h') : SRel B H X h' ∧ KeptD (Held H fun b => X b ∨ b = C) h (Held H X) h' := by
  have kd : KeptD (Held H fun b => X b ∨ b = C) h (Held H X) h' := fun b o e i => ⟨(hs.2 b fun z => i (.inr (.inr z))).trans e, fun q => i (q.imp id .inl)⟩
  have nb : ∀ b, H b ≠ none → b ≠ C := fun b q z => q (z ▸ (S.hid C (.inr rfl)).1)
  refine ⟨⟨fun b o e => ?_, fun b q => ?_, fun b ob e => ?_⟩, kd⟩
  · obtain ⟨e1, e2⟩ := S.base b o e; exact kd b o e1 e2
  · obtain ⟨q1, o, q2⟩ := S.hid b (.inl q)
    exact ⟨q1, o, (hs.2 b fun z => hC (z ▸ q)).trans q2⟩
  · refine (S.objs b ob e).moved kd (fun o q => (hs.2 b (nb b (by simp [e]))).trans q) fun C' dx fs _ q => ⟨q, fun o z => (hs.2 dx (nb dx (by simp [q]))).trans z⟩

theorem W_comp {elt iter : Expr} {gens : List Comprehension} {pos : Pos} {x : Str} {px : Pos} {ifs : List Expr} {Q : AVal → AHeap → Prop} (hc : compOK scope sc = true) (hx : scope.names.lookup x = some .local)
    (hse : ∀ env y, foldedSetIterable iter env y = pure y) (h : W B d sc ρ iter (CompSrcOK B d sc ρ scope elt x px iter ifs gens fun out H₂ => Q (.lst out) H₂) H) :
    W B d sc ρ (.ListComp elt (⟨.Name x px, iter, ifs, 0⟩ :: gens) scope pos) Q H := fun A env X s R E S L => by
  rw [eval_ListComp]
  refine comp_go R E S L hc hx hse h ?_
  rintro D C s' out H₂ ⟨h', tk, rfl⟩ S' r k hCn hC ⟨m, n⟩ q
  refine ⟨m, n, fun h'' hs => ?_⟩
  obtain ⟨S'', kd⟩ := S'.letGo hC hs
  refine ⟨.lst out, H₂, r.mono kd, S'', ⟨⟨_, _, rfl⟩, fun b o e i => ?_⟩, q⟩
  have kk := k b o e i
  exact ⟨(hs.2 b fun z => by have : b = C := z; subst this; exact hCn o e i).trans kk.1, kk.2⟩

noncomputable def swapB (sc scope : Scope) (t : Str) (l1 l2 : Nat) : Bool := (sc.kind == .function && sc.names.lookup t == some .local && l1 == l2 && !(scope.names.any fun (n, k) => n == t && (k == .local || k == .cell)))
theorem swaps_eq (E : EnvOK sc env) {elt : Expr} {gens : List Comprehension} {pos py : Pos} {y : Str} {l : Nat} : swapsWith (.ListComp elt gens scope pos) (some (.Name y py)) l env = pure (swapB sc scope y py.line pos.line) := by
  have : env.blockKind = .function := by unfold Env.blockKind; rw [E.scope, E.kind]; rfl
  show pure (env.blockKind == .function && env.kindOf y == some .local && py.line == pos.line && !(scope.names.any fun (n, k) => n == y && (k == .local || k == .cell))) = _
  unfold swapB Env.kindOf
  rw [this, E.scope, E.kind]

theorem W1_comp {elt iter : Expr} {gens : List Comprehension} {pos spos : Pos} {x y : Str} {px py : Pos} {ifs : List Expr} {Q : Fl → Loc → AHeap → Prop} (hsw : swapB sc scope y py.line pos.line = true) (hc : compOK scope sc = true) (hx : scope.names.lookup x = some .local)
    (hse : ∀ env y, foldedSetIterable iter env y = pure y) (h : W B d sc ρ iter (CompSrcOK B d sc ρ scope elt x px iter ifs gens fun out H₂ => Q .next (lset ρ y (.lst out)) H₂) H) :
    W1 B d sc ρ (.Assign [.Name y py] (.ListComp elt (⟨.Name x px, iter, ifs, 0⟩ :: gens) scope pos) spos) Q H := fun A env X s R E S L => by
  rw [exec_Assign_Name_used _ _ _ _ (by rw [swaps_eq E, hsw])]
  refine wpAny_bind (wpAny_standAt (wpAny_bind ?_))
  show wpAny _ A (do let _ ← comprehension (.ListComp elt (⟨.Name x px, iter, ifs, 0⟩ :: gens) scope pos) scope env _ (newList []) false (eval iter env) (some (assign (.Name y py) env))) _ _ s
  refine wpAny_bind (wpAny_mono (comp_go (use := some (assign (.Name y py) env)) (Qf := fun _ s' => OkS B H X s env Q .next s') R E S L hc hx hse h ?_) (fun _ s' hq => wpAny_pure (wpAny_pure hq)) fun _ _ e => e)
  rintro D C s' out H₂ ⟨h', tk, rfl⟩ S' r k hCn hC ⟨m, n⟩ q
  have kD : KeptD (Held H X) s.heap (Held H₂ fun b => X b ∨ b = C) h' := fun b o e i => by
    have kk := k b o e (Held.none i)
    refine ⟨kk.1, fun q => ?_⟩
    rcases q with q | q | q
    · exact q kk.2
    · exact i (.inr q)
    · have : b = C := q
      subst this; exact hCn o e (Held.none i)
  have L' : LRel B (Held H₂ fun b => X b ∨ b = C) (fun b => X b ∨ b = C) h' env ρ := by
    have l := L.moved kD fun b o q e => (k b o e (S.hid b (L.own b q)).1).1
    exact ⟨fun b q => .inl (l.own b q), l.ns, l.cell, l.kind, l.cells, l.apart, l.off⟩
  have hv : isVar sc y = true := by
    unfold swapB at hsw
    simp only [Bool.and_eq_true] at hsw
    unfold isVar; rw [hsw.1.1.2]; rfl
  show wpAny _ A (assign (.Name y py) env (.ref D)) _ _ _
  refine monoOk (WA_name (d := d) (Q := fun ρ' H' => ρ' = lset ρ y (.lst out) ∧ H' = H₂) hv ⟨rfl, rfl⟩ A env _ _ _ R E S' L' r) fun _ s'' ⟨ρ'', H'', S'', L'', ⟨⟨h2, tk2, e0⟩, k''⟩, e1, e2⟩ => ?_
  subst e0 e1 e2
  have nOwn : ¬ Own env C := fun q => hC (L.own C q)
  have hCk : ∀ o, h'.get? C = some o → h2.get? C = some o := fun o e => (k'' C o e (S'.hid C (.inr rfl)).1 nOwn).1
  refine ⟨m, n.at' hCk, fun h3 hs => ?_⟩
  obtain ⟨S3, kd⟩ := S''.letGo hC hs
  refine ⟨.next, _, _, .next, S3, ?_, ⟨⟨_, _, rfl⟩, fun b o e i nb => ?_⟩, q⟩
  · have l := L''.moved kd fun b o q e => (hs.2 b fun z => nOwn (z ▸ q)).trans e
    exact ⟨fun b q => L.own b q, l.ns, l.cell, l.kind, l.cells, l.apart, l.off⟩
  · have k1 := k b o e i
    have k2 := k'' b o k1.1 k1.2 nb
    exact ⟨(hs.2 b fun z => by have : b = C := z; subst this; exact hCn o e i).trans k2.1, k2.2⟩

theorem W1_assign {t value : Expr} {pos : Pos} {Q : Fl → Loc → AHeap → Prop} (h : W B d sc ρ value (AsgQ B d sc ρ t (Q .next)) H)
    (hs : ∀ env, EnvOK sc env → swapsWithSole [t] value pos.line env = pure false := by intro _ _; with_unfolding_all rfl) (hw : ∀ env, EnvOK sc env → swappedStores [t] value env = pure none := by intro _ _; with_unfolding_all rfl)
    (ht : ∀ env, assignEach [t] env = [(false, assign t env)] := by intro _; with_unfolding_all rfl) :
    W1 B d sc ρ (.Assign [t] value pos) Q H := fun A env X s R E S L => by
  rw [exec_Assign]
  refine wpAny_bind (wpAny_standAt ?_)
  rw [hs env E]
  refine wpAny_bind (wpAny_pure ?_)
  rw [if_neg (by decide)]
  refine seqOk (h A env X s R E S L) fun v s₁ x H₁ r₁ S₁ t₁ q₁ => ?_
  rw [hw env E]
  refine wpAny_bind (wpAny_pure ?_)
  rw [ht env]
  show wpAny _ A (do assign t env v; pure Flow.next) _ _ _
  exact wpAny_bind (monoOk (q₁ A env X s₁ v R E S₁ (L.kept S t₁.2) r₁) fun _ s₂ ⟨ρ₂, H₂, S₂, L₂, t₂, q₂⟩ => wpAny_pure ⟨.next, ρ₂, H₂, .next, S₂, L₂, (StepE.of t₁).trans t₂, q₂⟩)

theorem store_any {A : Around} {s : Shared} {x : Str} {a : AVal} {v : Value} (R : Room d A) (E : EnvOK sc env) (S : SRel B H X s.heap) (L : LRel B (Held H X) X s.heap env ρ) (r : VRel B (Held H X) s.heap a v) (hv : isVar sc x = true) :
    wpAny (model B.prog B.w) A (bindName env x v) (fun _ => OkA B H X s env fun ρ' H' => ρ' = lset ρ x a ∧ H' = H) Fa s := by
  have hk : env.scope.kind = .function := E.scope ▸ E.kind
  have ek : ∀ y, env.kindOf y = sc.names.lookup y := fun y => by unfold Env.kindOf; rw [E.scope]
  refine wpAny_bindName ?_
  obtain ⟨m, n, f⟩ := L.ns
  rcases Bool.or_eq_true_iff.mp hv with k | k
  · have k' : env.kindOf x = some .local := (ek x).trans (beq_iff_eq.mp k)
    refine wpAny_storeName_local k' n (fun h' hn' hs' => ?_) (by rw [hk]; rfl)
    obtain ⟨S', L', K'⟩ := L.store (x := x) (v := v) S (.inl rfl) hs' (let ⟨o, es, ep, e, _⟩ := hn'; ⟨o, e⟩) ⟨_, hn', fun y hy _ m₂ n₂ => by
      rw [if_neg hy]
      obtain ⟨o, es, ep, e1, e2, _, e3⟩ := n
      obtain ⟨o', es', ep', f1, f2, _, f3⟩ := n₂
      rw [e1] at f1; cases f1; rw [e2] at f2; cases f2
      rw [← e3, f3], fun _ => if_pos rfl⟩ (fun y c' u e c2 => by
        rw [if_neg fun z => z.1 k']
        exact c2.sameBut hs' (L.off y c' (mem_of_lookup e))) (.inl k') r
    exact ⟨_, H, S', L', ⟨⟨_, _, rfl⟩, K'⟩, rfl, rfl⟩
  · have k' : env.kindOf x = some .cell := (ek x).trans (beq_iff_eq.mp k)
    have nl : env.kindOf x ≠ some .local := by rw [k']; decide
    obtain ⟨c, u, c1, c2⟩ := L.cells x (.inl k')
    have hLc : env.locals ≠ c := Ne.symm (L.off x c (mem_of_lookup c1))
    refine wpAny_storeName_cell hk k' c1 c2 fun h' hc' hs' => ?_
    obtain ⟨S', L', K'⟩ := L.store (x := x) (v := v) S (.inr ⟨x, mem_of_lookup c1⟩) hs' (let ⟨o, e, _⟩ := hc'; ⟨o, e⟩) ⟨m, n.sameBut hs' hLc, fun y hy _ m₂ n₂ => by
      obtain ⟨o, es, ep, e1, e2, _, e3⟩ := n
      obtain ⟨o', es', ep', f1, f2, _, f3⟩ := n₂
      rw [e1] at f1; cases f1; rw [e2] at f2; cases f2
      rw [← e3, f3], fun z => absurd z nl⟩ (fun y c' u' e c3 => by
        by_cases hy : y = x
        · subst hy; rw [c1] at e; cases e
          rw [if_pos ⟨nl, rfl⟩]; exact hc'
        · rw [if_neg fun z => hy z.2]
          exact c3.sameBut hs' fun z => hy (L.apart y x c' e (z ▸ c1))) (.inr k') r
    exact ⟨_, H, S', L', ⟨⟨_, _, rfl⟩, K'⟩, rfl, rfl⟩

noncomputable def lsets : Loc → List Str → List AVal → Loc
  | ρ, x :: xs, a :: as => lsets (lset ρ x a) xs as
  | ρ, _, _ => ρ
theorem store_many {A : Around} (R : Room d A) (E : EnvOK sc env) (names : List Str) : ∀ (xs : List AVal) (vs : List Value) (ρ : Loc) (s : Shared) (S : SRel B H X s.heap) (L : LRel B (Held H X) X s.heap env ρ) (r : VRels B (Held H X) s.heap xs vs)
    (hv : names.all (isVar sc) = true) (hl : names.length = xs.length),
    wpAny (model B.prog B.w) A (assignInOrder (names.map fun n => bindName env n) vs) (fun _ => OkA B H X s env fun ρ' H' => ρ' = lsets ρ names xs ∧ H' = H) Fa s := by
  induction names with
  | nil =>
    intro xs vs ρ s S L r hv hl
    cases xs with
    | nil => rw [r.inv_nil]; exact wpAny_pure ⟨ρ, H, S, L, .refl _ _ _, rfl, rfl⟩
    | cons => cases hl
  | cons n names ih =>
    intro xs vs ρ s S L r hv hl
    cases xs with
    | nil => cases hl
    | cons x xs =>
      obtain ⟨v, vs', rfl, r1, r2⟩ := r.inv_cons
      simp only [List.all_cons, Bool.and_eq_true] at hv
      show wpAny _ A (do holding vs' (bindName env n v); assignInOrder (names.map fun n => bindName env n) vs') _ _ s
      refine wpAny_bind (wpAny_holding (monoOk (store_any R E S L r1 hv.1) fun _ s₁ ⟨ρ₁, H₁, S₁, L₁, t₁, e1, e2⟩ => ?_))
      subst e1 e2
      exact monoOk (ih xs vs' _ s₁ S₁ L₁ (r2.mono (t₁.keptD L.own)) hv.2 (by simpa using hl)) fun _ _ o => o.trans t₁

theorem W1_swap {elts : List Expr} {k : Nat} {tpos pos : Pos} {value : Expr} {names : List Str} {Q : Fl → Loc → AHeap → Prop} (hw : ∀ env, EnvOK sc env → swappedStores [.Tuple elts k tpos] value env = pure (some names))
    (h : W B d sc ρ value (fun x H₁ => ∃ xs, x = .tup xs ∧ names.length = xs.length ∧ Q .next (lsets ρ names.reverse xs.reverse) H₁) H) (hv : names.reverse.all (isVar sc) = true)
    (hs : ∀ env, swapsWithSole [.Tuple elts k tpos] value pos.line env = pure false := by intro _; rfl) :
    W1 B d sc ρ (.Assign [.Tuple elts k tpos] value pos) Q H := fun A env X s R E S L => by
  refine Assign_Tuple_swapped (names := names) (monoOk (h A env X s R E S L) fun v s₁ ⟨x, H₁, r₁, S₁, t₁, xs, e, hl, q⟩ => ?_) (hs env) (hw env E)
  subst e
  obtain ⟨t, vs, n, rfl, hT, f⟩ := tup_of r₁
  have ht : IsTup s₁.heap t vs.toArray := ⟨_, hT, rfl, n, rfl⟩
  have hlen : names.length = vs.toArray.size := by rw [hl, List.size_toArray, f.1]
  rw [hlen]
  refine unpackItems_tuple R.handled ht fun h' hx => ?_
  have hk : ∀ a o, s₁.heap.get? a = some o → h'.get? a = some o := fun a o e => hx a o (Nat.ne_of_lt (Heap.lt_size e)) e
  have S' : SRel B H₁ X h' := S₁.grown hk
  have f' := (f.mono (Kept.grown hk : Kept H₁ s₁.heap H₁ h').held)
  have fr : VRels B (Held H₁ X) h' xs.reverse vs.reverse := ⟨by simp [f'.1], fun i x v a b => by
    have hi : i < xs.length := by have := (List.getElem?_eq_some_iff.mp a).1; simpa using this
    rw [List.getElem?_reverse hi] at a
    rw [List.getElem?_reverse (by rw [f'.1]; exact hi), f'.1] at b
    exact f'.2 _ x v a b⟩
  refine monoOk (store_many R E names.reverse xs.reverse vs.reverse ρ { s₁ with heap := h' } S' ((L.kept S t₁.2).kept S₁ (Kept.grown hk)) fr hv (by simpa using hl)) fun _ s₂ ⟨ρ₂, H₂, S₂, L₂, t₂, e1, e2⟩ => ?_
  subst e1 e2
  exact ⟨.next, _, _, .next, S₂, L₂, (StepE.of (t₁.trans ⟨⟨_, _, rfl⟩, Kept.grown hk⟩)).trans t₂, q⟩
end

section
variable {B : Base} {H H' : AHeap} {X D D' : Addr → Prop} {h h' : Heap} {env : Env} {ρ ρ' : Loc} {d : Nat} {sc scope : Scope}

/-! ## calls of the text's own functions and classes -/

structure FnIs (K : Frag) (f : Addr) (params : Arguments) (body : List Stmt) (scope : Scope) : Prop where
  is : ∃ name qual doc pm an cdv ct oc od osl, K.lookup f = some ⟨oc, od, .func (fnOf name qual params body scope .none .none doc pm an cdv ct), osl⟩ ∧ codeIn K cdv qual = true

noncomputable def scopeOK (scope : Scope) (names : List Str) : Bool :=
  scope.kind == .function && !scope.isCoroutine && !scope.isGenerator && scope.names.all (fun p => p.2 != .free) && (names.all fun x => scope.names.lookup x == some .local || (scope.names.lookup x == some .cell)) && decide ((cellsFrom 0 scope.names []).map (·.1)).Nodup && decide names.Nodup

theorem cellsFrom_mono : ∀ (names : List (Str × NameKind)) (n : Nat) (acc : List (Str × Addr)) (x : Str), ((x, .cell) ∈ names ∨ ∃ c, (x, c) ∈ acc) → ∃ c, (x, c) ∈ cellsFrom n names acc
  | [], n, acc, x, h => by
    rcases h with h | h
    · cases h
    · exact h
  | (m, k) :: r, n, acc, x, h => by
    unfold cellsFrom
    split
    · refine cellsFrom_mono r _ _ x ?_
      rcases h with h | ⟨c, h⟩
      · rcases List.mem_cons.mp h with q | q
        · cases q; exact .inr ⟨_, .head _⟩
        · exact .inl q
      · exact .inr ⟨c, .tail _ h⟩
    · rename_i hk
      refine cellsFrom_mono r _ _ x ?_
      rcases h with h | h
      · rcases List.mem_cons.mp h with q | q
        · cases q; simp at hk
        · exact .inl q
      · exact .inr h

theorem cells_lookup {scope : Scope} {x : Str} (h : scope.names.lookup x = some .cell) (n : Nat) : ∃ c, (cellsFrom n scope.names []).lookup x = some c := by
  obtain ⟨c, hm⟩ := cellsFrom_mono scope.names n [] x (.inl (mem_of_lookup h))
  exact lookup_of_mem hm

noncomputable def zipL : List Str → List AVal → Loc
  | x :: xs, a :: as => (x, a) :: zipL xs as
  | _, _ => []

theorem bindL_at {kindOf : Str → Option NameKind} : ∀ (names : List Str) (vs : List Value) (m : Str → Option Value) (x : Str), x ∉ names → bindL kindOf (names.zip vs) m x = m x
  | [], vs, m, x, _ => rfl
  | n :: r, [], m, x, _ => rfl
  | n :: r, v :: vs, m, x, hx => by
    show bindL kindOf (r.zip vs) _ x = _
    rw [bindL_at r vs _ x fun q => hx (.tail _ q)]
    split
    · exact if_neg fun (z : x = n) => hx (by rw [z]; exact .head _)
    · rfl
theorem bindC_at {kindOf : Str → Option NameKind} : ∀ (names : List Str) (vs : List Value) (m : Str → Option Value) (x : Str), x ∉ names → bindC kindOf (names.zip vs) m x = m x
  | [], vs, m, x, _ => rfl
  | n :: r, [], m, x, _ => rfl
  | n :: r, v :: vs, m, x, hx => by
    show bindC kindOf (r.zip vs) _ x = _
    rw [bindC_at r vs _ x fun q => hx (.tail _ q)]
    split
    · rfl
    · exact if_neg fun (z : x = n) => hx (by rw [z]; exact .head _)
theorem zip_local {kindOf : Str → Option NameKind} {D : Addr → Prop} {h : Heap} : ∀ {names : List Str} {xs : List AVal} {vs : List Value} {m : Str → Option Value} {x : Str} {a : AVal}, names.Nodup → VRels B D h xs vs → lget (zipL names xs) x = some a → kindOf x = some .local →
    ∃ v, bindL kindOf (names.zip vs) m x = some v ∧ VRel B D h a v
  | [], xs, vs, m, x, a, _, r, e, _ => by cases xs <;> simp [zipL, lget] at e
  | n :: ns, [], vs, m, x, a, _, r, e, _ => by simp [zipL, lget] at e
  | n :: ns, y :: xs, vs, m, x, a, nd, r, e, k => by
    obtain ⟨v, vs', rfl, r1, r2⟩ := r.inv_cons
    obtain ⟨nd1, nd2⟩ := List.nodup_cons.mp nd
    simp only [zipL, lget] at e
    show ∃ v_1, bindL kindOf (ns.zip vs') _ x = some v_1 ∧ _
    by_cases hx : x = n
    · subst hx
      rw [if_pos rfl] at e; cases e
      rw [bindL_at _ _ _ _ nd1, if_pos k]
      exact ⟨v, if_pos rfl, r1⟩
    · rw [if_neg hx] at e
      exact zip_local nd2 r2 e k
theorem zip_cell {kindOf : Str → Option NameKind} {D : Addr → Prop} {h : Heap} : ∀ {names : List Str} {xs : List AVal} {vs : List Value} {m : Str → Option Value} {x : Str} {a : AVal}, names.Nodup → VRels B D h xs vs → lget (zipL names xs) x = some a → kindOf x ≠ some .local →
    ∃ v, bindC kindOf (names.zip vs) m x = some v ∧ VRel B D h a v
  | [], xs, vs, m, x, a, _, r, e, _ => by cases xs <;> simp [zipL, lget] at e
  | n :: ns, [], vs, m, x, a, _, r, e, _ => by simp [zipL, lget] at e
  | n :: ns, y :: xs, vs, m, x, a, nd, r, e, k => by
    obtain ⟨v, vs', rfl, r1, r2⟩ := r.inv_cons
    obtain ⟨nd1, nd2⟩ := List.nodup_cons.mp nd
    simp only [zipL, lget] at e
    show ∃ v_1, bindC kindOf (ns.zip vs') _ x = some v_1 ∧ _
    by_cases hx : x = n
    · subst hx
      rw [if_pos rfl] at e; cases e
      rw [bindC_at _ _ _ _ nd1, if_neg k]
      exact ⟨v, if_pos rfl, r1⟩
    · rw [if_neg hx] at e
      exact zip_cell nd2 r2 e k
theorem zipL_mem : ∀ {names : List Str} {xs : List AVal} {x : Str} {a : AVal}, lget (zipL names xs) x = some a → x ∈ names
  | [], xs, x, a, e => by cases xs <;> simp [zipL, lget] at e
  | n :: ns, [], x, a, e => by simp [zipL, lget] at e
  | n :: ns, y :: xs, x, a, e => by
    simp only [zipL, lget] at e
    by_cases hx : x = n
    · exact hx ▸ .head _
    · rw [if_neg hx] at e; exact .tail _ (zipL_mem e)

noncomputable def RetQ (Q : AVal → AHeap → Prop) : Fl → Loc → AHeap → Prop
  | .next, _, H => Q .none H
  | .ret x, _, H => Q x H

/-- the call of a function, as the machine runs it -/
theorem code_fn {A : Around} {s : Shared} {f : Addr} {names : List Str} {params : Arguments} {body : List Stmt} {xs : List AVal} {vs : List Value} {Q : AVal → AHeap → Prop} (F : FnIs B.K f params body scope)
    (hb : ∀ name qual doc pm an cdv ct, bindArgs (fnOf name qual params body scope .none .none doc pm an cdv ct) ⟨vs, []⟩ = pure (names.zip vs))
    (hs : scopeOK scope names = true) (h : WS B d scope (zipL names xs) body (RetQ Q) H) (R : Room (d + 1) A) (S : SRel B H X s.heap) (r : VRels B (Held H X) s.heap xs vs) :
    codeAny (model B.prog B.w) A (.call (.ref f) ⟨vs, []⟩) (fun r s' => match r with | .ok (.ret v) => Ok B H X s Q v s' | _ => False) s := by
  obtain ⟨name, qual, doc, pm, an, cdv, ct, oc, od, osl, ho, hcd⟩ := F.is
  unfold scopeOK at hs
  simp only [Bool.and_eq_true, beq_iff_eq, Bool.not_eq_true', List.all_eq_true, bne_iff_ne, ne_eq, Bool.or_eq_true, decide_eq_true_eq] at hs
  obtain ⟨⟨⟨⟨⟨⟨k1, k2⟩, k3⟩, k4⟩, k5⟩, k6⟩, nd⟩ := hs
  refine codeAny_call_cells (fd := fnOf name qual params body scope .none .none doc pm an cdv ct) (body := body) (binds := names.zip vs) (by have := R.2.1; show A.depth < 1000; lia) (S.inK _ _ ho) rfl (B.lim.keeps fun b o e => (S.base b o e).1)
    (codeRec_of S.inK hcd) rfl (hb _ _ _ _ _ _ _) rfl (fun p hp => ?_) (fun s₁ x => ?_) k2 k3 k1
  · have := k5 p.1 (List.of_mem_zip hp).1
    rcases this with q | q
    · exact .inl q
    · obtain ⟨c, e⟩ := cells_lookup q (s.heap.objs.size + 1)
      exact .inr ⟨q, by show Option.isSome (List.lookup p.1 (cellsFrom (s.heap.objs.size + 1) scope.names [])) = true; rw [e]; rfl⟩
  · generalize hfd : fnOf name qual params body scope .none .none doc pm an cdv ct = fd at x ⊢
    have hscope : fd.scope = scope := by rw [← hfd]
    have hglob : fd.globals = mainGlobals := by rw [← hfd]
    have hblt : fd.builtins = builtinsNs := by rw [← hfd]
    generalize henv : callEnvC fd s.heap.objs.size f = env at x ⊢
    have eL : env.locals = s.heap.objs.size := by rw [← henv]; rfl
    have eC : env.cells = cellsFrom (s.heap.objs.size + 1) scope.names [] := by rw [← henv, ← hscope]; rfl
    have eS : env.scope = scope := by rw [← henv, ← hscope]; rfl
    have E : EnvOK scope env := ⟨eS, k1, by rw [← henv]; exact hglob, by rw [← henv]; exact hblt⟩
    have ek : ∀ y, env.kindOf y = scope.names.lookup y := fun y => by unfold Env.kindOf; rw [eS]
    obtain ⟨h₁, tk, rfl, keep⟩ := x.done
    let X' : Addr → Prop := fun b => X b ∨ Own env b
    have fresh : ∀ b, Own env b → s.heap.get? b = none := fun b q => by
      cases e : s.heap.get? b with
      | none => rfl
      | some o =>
        exfalso
        have hlt : @LT.lt Nat _ b s.heap.objs.size := Heap.lt_size e
        rcases q with q | ⟨y, q⟩
        · have q' : @Eq Nat b s.heap.objs.size := q.trans eL
          lia
        · have := x.above y b q
          rw [eL] at this
          exact absurd (Nat.lt_trans hlt this) (Nat.lt_irrefl _)
    have kd : KeptD (Held H X) s.heap (Held H X') h₁ := fun b o e i => ⟨keep b o e, fun q => by
      rcases q with q | q | q
      · exact i (.inl q)
      · exact i (.inr q)
      · rw [fresh b q] at e; cases e⟩
    have cellAt : ∀ y, env.kindOf y = some .cell → ∃ c, env.cells.lookup y = some c := fun y q => by rw [eC]; exact cells_lookup (by rw [← ek]; exact q) _
    have noFree : ∀ y, env.kindOf y ≠ some .free := fun y q => k4 (y, .free) (mem_of_lookup (by rw [← ek]; exact q)) rfl
    have S₁ : SRel B H X' h₁ := by
      refine ⟨fun b o e => ?_, fun b q => ?_, fun b ob e => ?_⟩
      · obtain ⟨e1, e2⟩ := S.base b o e; exact kd b o e1 e2
      · rcases q with q | q
        · obtain ⟨q1, o, q2⟩ := S.hid b q; exact ⟨q1, o, keep b o q2⟩
        · refine ⟨Held.none (S.unheld (fresh b q)), ?_⟩
          rcases q with q | ⟨y, q⟩
          · obtain ⟨o, es, ep, e, _⟩ := x.toInCall.ns; exact ⟨o, q ▸ e⟩
          · have hc' : env.cells.lookup y = some b := by
              rw [eC] at q ⊢
              exact lookup_of_mem_nodup (cellsFrom_names scope.names 0 (s.heap.objs.size + 1) [] [] rfl ▸ k6) q
            obtain ⟨o, e, _⟩ := x.cell y b hc'; exact ⟨o, e⟩
      · exact (S.objs b ob e).moved kd (fun o q => keep b o q) fun C dx fs _ q => ⟨q, fun o z => keep dx o z⟩
    have L₁ : LRel B (Held H X') X' h₁ env (zipL names xs) := by
      refine ⟨fun b q => .inr q, ⟨_, x.toInCall.ns, fun y a e k => ?_⟩, fun y a e k => ?_, fun y a e => ?_, fun y k => ?_, fun y z c e1 e2 => name_of_addr x.apart (mem_of_lookup e1) (mem_of_lookup e2), fun y c hm => ?_⟩
      · obtain ⟨v, q1, q2⟩ := zip_local (kindOf := env.kindOf) (m := fun _ => none) nd r e k
        exact ⟨v, q1, q2.mono kd⟩
      · have nl : env.kindOf y ≠ some .local := by rcases k with k | k <;> rw [k] <;> decide
        obtain ⟨v, q1, q2⟩ := zip_cell (kindOf := env.kindOf) (m := fun _ => none) nd r e nl
        obtain ⟨c, hc⟩ := cellAt y (k.resolve_right (noFree y))
        exact ⟨c, v, hc, by have := x.cell y c hc; rwa [q1] at this, q2.mono kd⟩
      · have := k5 y (zipL_mem e)
        rw [ek]
        rcases this with q | q
        · exact .inl q
        · exact .inr (.inl q)
      · obtain ⟨c, hc⟩ := cellAt y (k.resolve_right (noFree y))
        exact ⟨c, _, hc, x.cell y c hc⟩
      · exact Ne.symm (Nat.ne_of_lt (x.above y c hm))
    have R₁ : Room d (A.deeper env) := ⟨R.1, by have := R.2.1; show A.depth + 1 + 10 * d ≤ 900; lia, by have := R.2.2; show A.units + 3 + 30 * d ≤ 9000; lia⟩
    refine wpAny_mono (h (A.deeper env) env X' _ R₁ E S₁ L₁) (fun fl s' hfl => ?_) (fun _ _ q => q.elim)
    obtain ⟨fl', ρ', H', r', S', L', ⟨⟨h2, tk2, rfl⟩, k'⟩, q⟩ := hfl
    have st : Step H s H' { s with heap := h2, toks := tk2 } := ⟨⟨_, _, rfl⟩, fun b o e i => k' b o (keep b o e) i fun q => by rw [fresh b q] at e; cases e⟩
    have kw : KeptD (Held H' X') h2 (Held H' X) h2 := KeptD.weaken fun b q => q.imp id .inl
    have S'' : SRel B H' X h2 := S'.show fun b q => .inl q
    cases r' with
    | next => exact ⟨.none, H', .none, S'', st, q⟩
    | ret r' => exact ⟨_, H', r'.mono kw, S'', st, q⟩

theorem VRels.len {xs : List AVal} {vs : List Value} (r : VRels B D h xs vs) : vs.length = xs.length := r.1

theorem CallF_of {f : Addr} {names : List Str} {params : Arguments} {body : List Stmt} {xs : List AVal} {Q : AVal → AHeap → Prop} (F : FnIs B.K f params body scope)
    (hb : ∀ name qual doc pm an cdv ct (vs : List Value), vs.length = names.length → bindArgs (fnOf name qual params body scope .none .none doc pm an cdv ct) ⟨vs, []⟩ = pure (names.zip vs))
    (hs : scopeOK scope names = true) (hl : xs.length = names.length) (h : WS B d scope (zipL names xs) body (RetQ Q) H) : CallF B (d + 1) f xs Q H := fun A X s vs R S r => by
  refine wpAny_call (codeAny_mono (code_fn F (fun _ _ _ _ _ _ _ => hb _ _ _ _ _ _ _ vs (by rw [r.1, hl])) hs h R S r) fun r s' hr => ?_)
  rcases r with e | v
  · exact hr.elim
  · cases v <;> first | exact hr | exact hr.elim

/-! ### classes -/

structure ClsIs (K : Frag) (C f : Addr) : Prop where
  makes : makesIn K C = true
  init : findIn K (.ref C) "__init__" = some (some (.ref f))
  fn : typeIn K (.ref f) = some (.type "function")

theorem CallF_new {C f : Addr} {names : List Str} {params : Arguments} {body : List Stmt} {xs : List AVal} {Q : AVal → AHeap → Prop} (I : ClsIs B.K C f) (F : FnIs B.K f params body scope)
    (hb : ∀ name qual doc pm an cdv ct (vs : List Value), vs.length = names.length → bindArgs (fnOf name qual params body scope .none .none doc pm an cdv ct) ⟨vs, []⟩ = pure (names.zip vs))
    (hs : scopeOK scope names = true) (hl : xs.length + 1 = names.length)
    (h : ∀ a dx, a ≠ dx → H a = none → H dx = none → WS B d scope (zipL names (.ref a :: xs)) body (RetQ fun v H' => v = .none ∧ Q (.ref a) H') (upd (upd H dx (some (.shadow a))) a (some (.inst C dx [])))) : CallF B (d + 2) C xs Q H := fun A X s vs R S r => by
  obtain ⟨hh, g, dr, t, os⟩ := s
  refine wpAny_call (make_core (makes_of S.inK I.makes) (looks_findIn S.inK I.init) (fun self => bind_fn S.inK self I.fn) (.inl rfl) ?_)
  have f1 : H hh.objs.size = none := Held.none S.fresh
  have S1 := S.hide emptyDict rfl
  have S2 := S1.hide (instObj C hh.objs.size) rfl
  have e2 : (hh.push emptyDict).objs.size = hh.objs.size + 1 := Heap.size_push ..
  rw [e2] at S2
  have f2 : H (hh.objs.size + 1) = none := (S2.hid _ (.inr rfl)).1
  have ne : (hh.objs.size + 1 : Addr) ≠ hh.objs.size := Nat.succ_ne_self _
  have g1 : ((hh.push emptyDict).push (instObj C hh.objs.size)).get? hh.objs.size = some emptyDict := Heap.get?_push_of_some _ (Heap.get?_push_size _ rfl)
  have g2 : ((hh.push emptyDict).push (instObj C hh.objs.size)).get? (hh.objs.size + 1) = some (instObj C hh.objs.size) := e2 ▸ Heap.get?_push_size _ rfl
  have nX : ∀ b, X b → b ≠ hh.objs.size := fun b q z => S.fresh (.inr (show X hh.objs.size from z ▸ q))
  have nX1 : ∀ b, X b → b ≠ hh.objs.size + 1 := fun b q z => by
    obtain ⟨_, o, e⟩ := S.hid b q
    exact absurd (Heap.lt_size e) (by rw [z]; exact Nat.not_lt.mpr (Nat.le_succ _))
  have S3 : SRel B (upd H hh.objs.size (some (.shadow (hh.objs.size + 1)))) (fun b => X b ∨ b = hh.objs.size + 1) ((hh.push emptyDict).push (instObj C hh.objs.size)) :=
    S2.take (.inl (.inr rfl)) (fun b => ⟨fun q => ⟨q.elim (fun z => .inl (.inl z)) .inr, fun z => q.elim (fun y => nX b y z) fun y => ne (y ▸ z)⟩, fun q => q.1.elim (fun y => y.elim .inl fun z => absurd z q.2) .inr⟩) ⟨_, g1⟩
  have S4 : SRel B (upd (upd H hh.objs.size (some (.shadow (hh.objs.size + 1)))) (hh.objs.size + 1) (some (.inst C hh.objs.size []))) X ((hh.push emptyDict).push (instObj C hh.objs.size)) :=
    S3.take (.inr rfl) (fun b => ⟨fun q => ⟨.inl q, nX1 b q⟩, fun q => q.1.resolve_right q.2⟩) ⟨[], 0, g2, g1, by rw [upd_ne _ _ (Ne.symm ne), upd_self], .nil⟩
  have hfr : (Code.builtin "type.__call__" ⟨.ref C :: vs, []⟩).frames = 0 := by rfl
  have R₁ : Room (d + 1) (A.under (.builtin "type.__call__" ⟨.ref C :: vs, []⟩)) := by
    have e1 : (A.under (.builtin "type.__call__" ⟨.ref C :: vs, []⟩)).depth = A.depth + (Code.builtin "type.__call__" ⟨.ref C :: vs, []⟩).weight := rfl
    have e2 : (A.under (.builtin "type.__call__" ⟨.ref C :: vs, []⟩)).units = A.units + (1 + 3 * (Code.builtin "type.__call__" ⟨.ref C :: vs, []⟩).frames) := rfl
    have e3 : (Code.builtin "type.__call__" ⟨.ref C :: vs, []⟩).weight = 1 := by rfl
    exact ⟨R.1, by have := R.2.1; rw [e1, e3]; lia, by have := R.2.2; rw [e2, hfr]; lia⟩
  have kk : Kept H hh (upd (upd H hh.objs.size (some (.shadow (hh.objs.size + 1)))) (hh.objs.size + 1) (some (.inst C hh.objs.size []))) ((hh.push emptyDict).push (instObj C hh.objs.size)) := fun b o e i => by
    have hlt : @LT.lt Nat _ b hh.objs.size := Heap.lt_size e
    refine ⟨Heap.get?_push_of_some _ (Heap.get?_push_of_some _ e), ?_⟩
    rw [upd_ne _ _ (Nat.ne_of_lt (Nat.lt_succ_of_lt hlt)), upd_ne _ _ (Nat.ne_of_lt hlt)]; exact i
  have body := h (hh.objs.size + 1) hh.objs.size ne f2 f1
  refine codeAny_mono (code_fn (s := ⟨(hh.push emptyDict).push (instObj C hh.objs.size), g, dr, t, os⟩) F (fun _ _ _ _ _ _ _ => hb _ _ _ _ _ _ _ (.ref (hh.objs.size + 1) :: vs) (by simp [r.1, hl])) hs body R₁ S4 (VRels.cons .ref (r.mono kk.held))) fun r s' hr => ?_
  rcases r with e | v
  · exact hr.elim
  · cases v with
    | ret v =>
      obtain ⟨x, H', r', S', t', e, q⟩ := hr
      subst e; cases r'
      exact ⟨rfl, .ref _, H', .ref, S', Step.trans ⟨⟨_, _, rfl⟩, kk⟩ t', q⟩
    | _ => exact hr.elim

/-! ### freezing -/

inductive Froze : AHeap → AVal → AHeap → AVal → Prop where
  | list {H : AHeap} {a : Addr} {xs : List AVal} : H a = some (.list xs) → Froze H (.ref a) (upd H a none) (.lst xs)
  | dict {H : AHeap} {a : Addr} {kvs : List (Int × AVal)} : H a = some (.dict kvs) → Froze H (.ref a) (upd H a none) (.dct kvs)
  | inst {H : AHeap} {a C dx : Addr} {fs : List (Str × AVal)} : H a = some (.inst C dx fs) → Froze H (.ref a) (upd (upd H a none) dx none) (.obj C fs)
  | field {H : AHeap} {a C dx t : Addr} {n : Str} {fs : List (Str × AVal)} {kvs : List (Int × AVal)} {x : AVal} : H a = some (.inst C dx ((n, .ref t) :: fs)) → H t = some (.dict kvs) →
      Froze H x (upd (upd H t none) a (some (.inst C dx ((n, .dct kvs) :: fs)))) x
  | entry {H : AHeap} {a p : Addr} {i : Nat} {k : Int} {kvs : List (Int × AVal)} {xs : List AVal} {x : AVal} : H a = some (.dict kvs) → kvs[i]? = some (k, .ref p) → H p = some (.list xs) →
      Froze H x (upd (upd H p none) a (some (.dict (kvs.set i (k, .lst xs))))) x
  | drop {H : AHeap} {p : Addr} {xs : List AVal} {x : AVal} : H p = some (.list xs) → Froze H x (upd H p none) x
  | refl {H : AHeap} {x : AVal} : Froze H x H x
  | trans {H H' H'' : AHeap} {x y z : AVal} : Froze H x H' y → Froze H' y H'' z → Froze H x H'' z

theorem noShadow {x dx : Addr} {a C : Addr} {fs : List (Str × AVal)} {ob : AObj} (S : SRel B H X h) (e : H a = some ob) (hn : ∀ y, ob ≠ .shadow y) (q : H x = some (.inst C dx fs)) (z : dx = a) : False := by
  obtain ⟨es, n, _, _, e3, _⟩ := S.objs _ _ q
  rw [z, e] at e3
  exact hn _ (Option.some.inj e3)

theorem Froze.rel {H H' : AHeap} {x y : AVal} (f : Froze H x H' y) : ∀ {v : Value}, SRel B H X h → VRel B (Held H X) h x v → VRel B (Held H' X) h y v ∧ SRel B H' X h ∧ Kept H h H' h := by
  induction f with
  | trans f g ihf ihg =>
    intro v S r
    obtain ⟨r1, S1, k1⟩ := ihf S r
    obtain ⟨r2, S2, k2⟩ := ihg S1 r1
    exact ⟨r2, S2, k1.trans k2⟩
  | refl =>
    intro v S r
    exact ⟨r, S, .refl _ _⟩
  | drop ep =>
    rename_i H p xs x
    intro v S r
    have S1 : SRel B (upd H p none) X h := S.drop fun x dx C fs q z => (noShadow S ep (fun _ q => by cases q) q z).elim
    have kd : KeptD (Held H X) h (Held (upd H p none) X) h := KeptD.weaken fun b q => q.imp (fun z => by
      by_cases hb : b = p
      · subst hb; rw [upd_self] at z; exact absurd rfl z
      · rw [upd_ne _ _ hb] at z; exact z) id
    exact ⟨r.mono kd, S1, fun b o e i => ⟨e, by
      by_cases hb : b = p
      · rw [hb, upd_self]
      · rw [upd_ne _ _ hb]; exact i⟩⟩
  | entry ea ei ep =>
    rename_i H a p i k kvs xs x
    intro v S r
    obtain ⟨kws, e1, e2, f⟩ := S.objs _ _ ea
    have pa : p ≠ a := fun z => by rw [z, ea] at ep; cases ep
    have S1 : SRel B (upd H p none) X h := S.drop fun x dx C fs q z => (noShadow S ep (fun _ q => by cases q) q z).elim
    have nx : ¬ X p := fun q => by have := (S.hid p q).1; rw [ep] at this; cases this
    have kd : KeptD (Held H X) h (Held (upd H p none) X) h := KeptD.weaken fun b q => q.imp (fun z => by
      by_cases hb : b = p
      · subst hb; rw [upd_self] at z; exact absurd rfl z
      · rw [upd_ne _ _ hb] at z; exact z) id
    have hd : Held (upd (upd H p none) a (some (.dict (kvs.set i (k, .lst xs))))) X = Held (upd H p none) X := funext fun b => propext (by
      unfold Held
      by_cases hb : b = a
      · subst hb; simp [upd_self, upd_ne _ _ (Ne.symm pa), ea]
      · simp [upd_ne _ _ hb])
    obtain ⟨vs, n, l1, l2⟩ := S.objs _ _ ep
    have hi : i < kvs.length := (List.getElem?_eq_some_iff.mp ei).1
    have f2 : DRels B (Held (upd H p none) X) h (kvs.set i (k, .lst xs)) kws := by
      refine ⟨?_, fun j k' y k'' u e3 e4 => ?_⟩
      · rw [f.1, List.map_set]
        have : (kvs.map (·.1))[i]? = some k := by rw [List.getElem?_map, ei]; rfl
        obtain ⟨h1, h2⟩ := List.getElem?_eq_some_iff.mp this
        have e := List.set_getElem_self (as := kvs.map (·.1)) h1
        rw [h2] at e; exact e.symm
      · by_cases hj : j = i
        · subst hj
          rw [List.getElem?_set_self hi] at e3
          cases e3
          have r1 := f.2 j k (.ref p) k'' u ei e4
          cases r1
          exact .lst l1 (fun q => q.elim (fun z => z (upd_self ..)) nx) l2.1 fun i x v a b => (l2.2 i x v a b).mono kd
        · rw [List.getElem?_set_ne (Ne.symm hj)] at e3
          exact (f.2 j k' y k'' u e3 e4).mono kd
    obtain ⟨S2, k2⟩ := S1.put (a := a) (c := a) (h' := h) (ob := .dict kvs) (ob' := .dict (kvs.set i (k, .lst xs))) (by rw [upd_ne _ _ (Ne.symm pa)]; exact ea) (fun _ q => by cases q) (.inl rfl) ⟨rfl, fun _ _ => rfl⟩ (fun o q => ⟨o, q⟩)
      fun _ => ⟨kws, e1, e2, f2⟩
    have k1 : Kept H h (upd H p none) h := fun b o e i => ⟨e, by
      by_cases hb : b = p
      · rw [hb, upd_self]
      · rw [upd_ne _ _ hb]; exact i⟩
    exact ⟨by rw [hd]; exact r.mono kd, S2, k1.trans k2⟩
  | field ea et =>
    rename_i H a C dx t n fs kvs x
    intro v S r
    obtain ⟨es, m, e1, e2, e3, f⟩ := S.objs _ _ ea
    have ta : t ≠ a := fun z => by rw [z, ea] at et; cases et
    have td : t ≠ dx := fun z => by rw [z, e3] at et; cases et
    have da : dx ≠ a := fun z => by rw [z, ea] at e3; cases e3
    have S1 : SRel B (upd H t none) X h := S.drop fun x dx C fs q z => (noShadow S et (fun _ q => by cases q) q z).elim
    have nx : ¬ X t := fun q => by have := (S.hid t q).1; rw [et] at this; cases this
    have kd : KeptD (Held H X) h (Held (upd H t none) X) h := KeptD.weaken fun b q => q.imp (fun z => by
      by_cases hb : b = t
      · subst hb; rw [upd_self] at z; exact absurd rfl z
      · rw [upd_ne _ _ hb] at z; exact z) id
    have hd : Held (upd (upd H t none) a (some (.inst C dx ((n, .dct kvs) :: fs)))) X = Held (upd H t none) X := funext fun b => propext (by
      unfold Held
      by_cases hb : b = a
      · subst hb; simp [upd_self, upd_ne _ _ (Ne.symm ta), ea]
      · simp [upd_ne _ _ hb])
    obtain ⟨kws, d1, d2, d3⟩ := S.objs _ _ et
    obtain ⟨e, es', rfl, hk, hv, f'⟩ := f.inv_cons
    have rv : VRel B (Held (upd H t none) X) h (.dct kvs) e.val := by
      generalize e.val = u at hv
      cases hv
      exact .dct d1 (fun q => q.elim (fun z => z (upd_self ..)) nx) d2 d3.1 fun i k x k' v p q => (d3.2 i k x k' v p q).mono kd
    obtain ⟨S2, k2⟩ := S1.put (a := a) (c := a) (h' := h) (ob := .inst C dx ((n, .ref t) :: fs)) (ob' := .inst C dx ((n, .dct kvs) :: fs)) (by rw [upd_ne _ _ (Ne.symm ta)]; exact ea) (fun _ q => by cases q) (.inl rfl) ⟨rfl, fun _ _ => rfl⟩ (fun o q => ⟨o, q⟩)
      fun _ => ⟨e :: es', m, e1, e2, by rw [upd_ne _ _ da, upd_ne _ _ (Ne.symm td)]; exact e3, FRels.cons hk rv (f'.mono kd)⟩
    have k1 : Kept H h (upd H t none) h := fun b o e i => ⟨e, by
      by_cases hb : b = t
      · rw [hb, upd_self]
      · rw [upd_ne _ _ hb]; exact i⟩
    exact ⟨by rw [hd]; exact r.mono kd, S2, k1.trans k2⟩
  | list e =>
    rename_i H a xs
    intro v S r
    have S' : SRel B (upd H a none) X h := S.drop fun x dx C fs q z => (noShadow S e (fun _ q => by cases q) q z).elim
    have nx : ¬ X a := fun q => by have := (S.hid a q).1; rw [e] at this; cases this
    have kd : KeptD (Held H X) h (Held (upd H a none) X) h := KeptD.weaken fun b q => q.imp (fun z => by
      by_cases hb : b = a
      · subst hb; rw [upd_self] at z; exact absurd rfl z
      · rw [upd_ne _ _ hb] at z; exact z) id
    cases r
    obtain ⟨vs, n, e1, f⟩ := S.objs _ _ e
    refine ⟨.lst e1 (fun q => q.elim (fun z => z (upd_self ..)) nx) f.1 fun i x v a b => (f.2 i x v a b).mono kd, S', fun b o e i => ⟨e, ?_⟩⟩
    by_cases hb : b = a
    · rw [hb, upd_self]
    · rw [upd_ne _ _ hb]; exact i
  | dict e =>
    rename_i H a xs
    intro v S r
    have S' : SRel B (upd H a none) X h := S.drop fun x dx C fs q z => (noShadow S e (fun _ q => by cases q) q z).elim
    have nx : ¬ X a := fun q => by have := (S.hid a q).1; rw [e] at this; cases this
    have kd : KeptD (Held H X) h (Held (upd H a none) X) h := KeptD.weaken fun b q => q.imp (fun z => by
      by_cases hb : b = a
      · subst hb; rw [upd_self] at z; exact absurd rfl z
      · rw [upd_ne _ _ hb] at z; exact z) id
    cases r
    obtain ⟨kws, e1, e2, f⟩ := S.objs _ _ e
    refine ⟨.dct e1 (fun q => q.elim (fun z => z (upd_self ..)) nx) e2 f.1 fun i k x k' v a b => (f.2 i k x k' v a b).mono kd, S', fun b o e i => ⟨e, ?_⟩⟩
    by_cases hb : b = a
    · rw [hb, upd_self]
    · rw [upd_ne _ _ hb]; exact i
  | inst e =>
    rename_i H a C dx fs
    intro v S r
    obtain ⟨es, n, e1, e2, e3, f⟩ := S.objs _ _ e
    have hax : dx ≠ a := fun z => by rw [z, e] at e3; cases e3
    have S1 : SRel B (upd H a none) X h := S.drop fun x dx C fs q z => (noShadow S e (fun _ q => by cases q) q z).elim
    have S' : SRel B (upd (upd H a none) dx none) X h := S1.drop fun x dx' C' fs' q z => by
      exfalso
      by_cases hx : x = a
      · rw [hx, upd_self] at q; cases q
      · rw [upd_ne _ _ hx] at q
        obtain ⟨_, _, _, _, q3, _⟩ := S.objs _ _ q
        rw [z, e3] at q3; cases q3; exact hx rfl
    have nx : ¬ X a := fun q => by have := (S.hid a q).1; rw [e] at this; cases this
    have nx2 : ¬ X dx := fun q => by have := (S.hid dx q).1; rw [e3] at this; cases this
    have no1 : upd (upd H a none) dx none a = none := by rw [upd_ne _ _ (Ne.symm hax), upd_self]
    have kd : KeptD (Held H X) h (Held (upd (upd H a none) dx none) X) h := KeptD.weaken fun b q => q.imp (fun z => by
      by_cases hb : b = dx
      · subst hb; rw [upd_self] at z; exact absurd rfl z
      · rw [upd_ne _ _ hb] at z
        by_cases hb : b = a
        · subst hb; rw [upd_self] at z; exact absurd rfl z
        · rw [upd_ne _ _ hb] at z; exact z) id
    cases r
    refine ⟨.obj e1 e2 (fun q => q.elim (fun z => z no1) nx) (fun q => q.elim (fun z => z (upd_self ..)) nx2) f.1 f.2.1 fun i x v e a b => (f.2.2 i x v e a b).mono kd, S', fun b o e i => ⟨e, ?_⟩⟩
    by_cases hb : b = dx
    · rw [hb, upd_self]
    · rw [upd_ne _ _ hb]
      by_cases hb : b = a
      · rw [hb, upd_self]
      · rw [upd_ne _ _ hb]; exact i

inductive FrozeQ (Q : AVal → AHeap → Prop) (x : AVal) (H₁ : AHeap) : Prop
  | mk (y : AVal) (H₂ : AHeap) (f : Froze H₁ x H₂ y) (q : Q y H₂) : FrozeQ Q x H₁
theorem VL_freeze {t : List Value → Sem Value} {xs : List AVal} {Q : AVal → AHeap → Prop} (h : VL B d t xs (FrozeQ Q) H) : VL B d t xs Q H := fun A X s vs R S r =>
  monoOk (h A X s vs R S r) fun v s' ⟨x, H', r', S', t', y, H₂, f, q⟩ => let ⟨a, b, c⟩ := f.rel S' r'; ⟨y, H₂, a, b, t'.trans ⟨⟨_, _, rfl⟩, c⟩, q⟩
theorem W_freeze {e : Expr} {Q : AVal → AHeap → Prop} (h : W B d sc ρ e (FrozeQ Q) H) : W B d sc ρ e Q H := fun A env X s R E S L =>
  monoOk (h A env X s R E S L) fun v s' ⟨x, H', r', S', t', y, H₂, f, q⟩ => let ⟨a, b, c⟩ := f.rel S' r'; ⟨y, H₂, a, b, t'.trans ⟨⟨_, _, rfl⟩, c⟩, q⟩

/-- a local name's value is frozen -/
theorem WS_freeze {ss : List Stmt} {x : Str} {a b : AVal} {H₂ : AHeap} {Q : Fl → Loc → AHeap → Prop} (hx : lget ρ x = some a) (f : Froze H a H₂ b) (h : WS B d sc (lset ρ x b) ss Q H₂) : WS B d sc ρ ss Q H := fun A env X s R E S L => by
  have S' : SRel B H₂ X s.heap ∧ Kept H s.heap H₂ s.heap := by
    rcases L.kind x a hx with k | k
    · obtain ⟨m, n, g⟩ := L.ns
      obtain ⟨v, e, r⟩ := g x a hx k
      obtain ⟨_, b, c⟩ := f.rel S r; exact ⟨b, c⟩
    · obtain ⟨c, v, _, _, r⟩ := L.cell x a hx k
      obtain ⟨_, b, c⟩ := f.rel S r; exact ⟨b, c⟩
  obtain ⟨S', kk⟩ := S'
  have kd := kk.held (X := X)
  have L' : LRel B (Held H₂ X) X s.heap env (lset ρ x b) := by
    obtain ⟨m, n, g⟩ := L.ns
    refine ⟨L.own, ⟨m, n, fun y c e k => ?_⟩, fun y c e k => ?_, fun y c e => ?_, L.cells, L.apart, L.off⟩
    · rw [lget_lset] at e
      by_cases hy : y = x
      · subst hy; rw [if_pos rfl] at e; cases e
        obtain ⟨v, e, r⟩ := g y a hx k
        exact ⟨v, e, (f.rel S r).1⟩
      · rw [if_neg hy] at e
        obtain ⟨v, e, r⟩ := g y c e k
        exact ⟨v, e, r.mono kd⟩
    · rw [lget_lset] at e
      by_cases hy : y = x
      · subst hy; rw [if_pos rfl] at e; cases e
        obtain ⟨c', v, e1, e2, r⟩ := L.cell y a hx k
        exact ⟨c', v, e1, e2, (f.rel S r).1⟩
      · rw [if_neg hy] at e
        obtain ⟨c', v, e1, e2, r⟩ := L.cell y c e k
        exact ⟨c', v, e1, e2, r.mono kd⟩
    · rw [lget_lset] at e
      by_cases hy : y = x
      · subst hy; exact L.kind y a hx
      · rw [if_neg hy] at e; exact L.kind y c e
  exact monoOk (h A env X s R E S' L') fun _ _ o => o.trans (.of ⟨⟨_, _, rfl⟩, kk⟩)
end

section
variable {B : Base} {H H' : AHeap} {X D D' : Addr → Prop} {h h' : Heap} {env : Env} {ρ ρ' : Loc} {d : Nat} {sc scope : Scope}

/-! ## built-in functions and slices -/

theorem VL_abs {i : Int} {Q : AVal → AHeap → Prop} (q : Q (.int (if i < 0 then -i else i)) H) : VL B d (fun vs => call (.builtin "abs") vs) [.int i] Q H := fun A X s vs R S r => by
  obtain ⟨v, vs', rfl, r1, r2⟩ := r.inv_cons
  rw [r2.inv_nil]
  cases r1
  exact call_abs_int fun u tk => Ok.tok S .int q

theorem VL_range {n : Nat} {Q : AVal → AHeap → Prop} (q : Q (.rng n) H) : VL B d (fun vs => call (.type "range") vs) [.int n] Q H := fun A X s vs R S r => by
  obtain ⟨v, vs', rfl, r1, r2⟩ := r.inv_cons
  rw [r2.inv_nil]
  cases r1
  refine call_range_1 ⟨.rng n, H, .rng (IsRange.new ..) S.fresh, S.push _, ⟨⟨_, _, rfl⟩, Kept.push _⟩, q⟩

theorem VL_list {a : AVal} {xs : List AVal} {Q : AVal → AHeap → Prop} (i : IsSeq H a xs) (hz : xs.length ≤ 100000) (q : Q (.lst xs) H) : VL B d (fun vs => call (.type "list") vs) [a] Q H := fun A X s vs R S r => by
  obtain ⟨v, vs', rfl, r1, r2⟩ := r.inv_cons
  rw [r2.inv_nil]
  obtain ⟨x, us, n, rfl, hL, f⟩ := seq_of S r1 i
  refine call_list_seq x (.inl rfl) hL rfl rfl (fun h' c' hk ha => ?_) (by rw [List.size_toArray, f.1, sizeLine_eq]; lia)
  have kk : Kept H s.heap H h' := Kept.grown hk
  have f' := f.mono kk.held
  exact ⟨.lst xs, H, .lst ha S.fresh f'.1 f'.2, S.grown hk, ⟨⟨_, _, rfl⟩, kk⟩, q⟩
theorem VL_listT {xs : List AVal} {Q : AVal → AHeap → Prop} (hz : xs.length ≤ 100000) (q : Q (.lst xs) H) : VL B d (fun vs => call (.type "list") vs) [.tup xs] Q H := fun A X s vs R S r => by
  obtain ⟨v, vs', rfl, r1, r2⟩ := r.inv_cons
  rw [r2.inv_nil]
  obtain ⟨x, us, n, rfl, hL, f⟩ := tup_of r1
  refine call_list_seq x (.inr rfl) hL rfl rfl (fun h' c' hk ha => ?_) (by rw [List.size_toArray, f.1, sizeLine_eq]; lia)
  have kk : Kept H s.heap H h' := Kept.grown hk
  have f' := f.mono kk.held
  exact ⟨.lst xs, H, .lst ha S.fresh f'.1 f'.2, S.grown hk, ⟨⟨_, _, rfl⟩, kk⟩, q⟩

/-! ### sorted -/

noncomputable def insZ (k : Int) : List Int → List Int
  | [] => [k]
  | j :: r => if k ≤ j then k :: j :: r else j :: insZ k r
noncomputable def sortZ : List Int → List Int
  | [] => []
  | k :: r => insZ k (sortZ r)
theorem insZ_perm (k : Int) : ∀ l, (insZ k l).Perm (k :: l)
  | [] => .refl _
  | j :: r => by
    unfold insZ
    split
    · exact .refl _
    · exact ((insZ_perm k r).cons j).trans (.swap k j r)
theorem sortZ_perm : ∀ l, (sortZ l).Perm l
  | [] => .nil
  | k :: r => (insZ_perm k _).trans ((sortZ_perm r).cons k)
theorem insZ_sorted (k : Int) : ∀ l, l.Pairwise (· ≤ ·) → (insZ k l).Pairwise (· ≤ ·)
  | [], _ => by simp [insZ]
  | j :: r, h => by
    obtain ⟨h1, h2⟩ := List.pairwise_cons.mp h
    unfold insZ
    split
    · rename_i hk
      exact List.pairwise_cons.mpr ⟨fun y hy => by
        rcases List.mem_cons.mp hy with rfl | hy
        · exact hk
        · exact Int.le_trans hk (h1 y hy), h⟩
    · rename_i hk
      refine List.pairwise_cons.mpr ⟨fun y hy => ?_, insZ_sorted k r h2⟩
      rcases List.mem_cons.mp ((insZ_perm k r).mem_iff.mp hy) with rfl | hy
      · lia
      · exact h1 y hy
theorem sortZ_sorted : ∀ l, (sortZ l).Pairwise (· ≤ ·)
  | [] => .nil
  | k :: r => insZ_sorted k _ (sortZ_sorted r)
theorem sorted_unique : ∀ {a b : List Int}, a.Perm b → a.Pairwise (· ≤ ·) → b.Pairwise (· ≤ ·) → a = b
  | [], b, p, _, _ => by rw [p.symm.eq_nil]
  | x :: a, [], p, _, _ => by have := p.eq_nil; cases this
  | x :: a, y :: b, p, ha, hb => by
    obtain ⟨a1, a2⟩ := List.pairwise_cons.mp ha
    obtain ⟨b1, b2⟩ := List.pairwise_cons.mp hb
    have e : x = y := by
      have h1 : y ≤ x := by
        rcases List.mem_cons.mp (p.mem_iff.mp (.head _)) with q | q
        · exact Int.le_of_eq q.symm
        · exact b1 x q
      have h2 : x ≤ y := by
        rcases List.mem_cons.mp (p.symm.mem_iff.mp (.head _)) with q | q
        · exact Int.le_of_eq q.symm
        · exact a1 y q
      lia
    subst e
    rw [sorted_unique (List.Perm.cons_inv p) a2 b2]
theorem sortZ_eq {a b : List Int} (p : a.Perm b) (h : a.Pairwise (· ≤ ·)) : a = sortZ b := sorted_unique (p.trans (sortZ_perm b).symm) h (sortZ_sorted b)
theorem sortZ_congr {a b : List Int} (p : a.Perm b) : sortZ a = sortZ b := sortZ_eq ((sortZ_perm a).trans p) (sortZ_sorted a)
theorem sortZ_id {a : List Int} (h : a.Pairwise (· ≤ ·)) : sortZ a = a := (sortZ_eq (.refl a) h).symm

theorem intsAre_at : ∀ {ks : List Int} {vs : List Value}, vs.length = ks.length → (∀ (j : Nat) (v : Value), vs[j]? = some v → ∃ k, ks[j]? = some k ∧ ∃ t, v = .int k t) → IntsAre vs ks
  | [], vs, hl, h => by
    have : vs = [] := List.eq_nil_of_length_eq_zero hl
    subst this; exact .nil
  | k :: ks, [], hl, h => by cases hl
  | k :: ks, v :: vs, hl, h => by
    obtain ⟨k', e, t, rfl⟩ := h 0 v rfl
    simp at e; subst e
    exact .cons _ _ (intsAre_at (by simpa using hl) fun j v e => by have := h (j + 1) v (by simpa using e); simpa using this)

theorem VL_sortedD {a : AVal} {kvs : List (Int × AVal)} {Q : AVal → AHeap → Prop} (i : IsDict H a kvs) (hz : kvs.length < 64) (q : Q (.lst (intsL (sortZ (kvs.map (·.1))))) H) : VL B d (fun vs => call (.builtin "sorted") vs) [a] Q H := fun A X s vs R S r => by
  obtain ⟨v, vs', rfl, r1, r2⟩ := r.inv_cons
  rw [r2.inv_nil]
  obtain ⟨x, kws, rfl, hD, hs, f⟩ := dict_of S r1 i
  obtain ⟨ep, hat⟩ := hD.dictAt
  have hlen := f.length
  refine Calls.call_function_entry kind_sorted plain_sorted entry_sorted (args_sorted1 _) ?_
  unfold Builtin.«sorted»
  refine wpAny_bind (m := checkCount "sorted" 1 1 _) (wpAny_pure ?_)
  refine wpAny_bind (kdu_collect (A := A.in1) (kdl_dict (knd := intKind B.prog B.w) (kvs := kws) (ep := ep) hs) R.handled hat (by rw [hlen, sizeLine_eq]; lia) fun h' tk acc hk hacc => ?_)
  have hl : acc.toList.length = kws.length := by rw [Array.length_toList]; exact hacc.1
  refine wpAny_bind (wpAny_newList ?_ (by rw [hl, hlen, sizeLine_eq]; lia))
  have hI : IntsAre acc.toList (kws.map (·.1)) := intsAre_at (by rw [hl, List.length_map]) fun j v e => by
    obtain ⟨k, x, e1, e2⟩ := hacc.2 j v (by rw [← Array.getElem?_toList]; exact e)
    refine ⟨k, by rw [List.getElem?_map, e1]; rfl, ?_⟩
    exact Value.isInt_shape e2
  have hoL : (h'.push { cls := .type "list", data := .seq acc.toList.toArray }).get? h'.objs.size = some (seqObj "list" acc.toList.toArray 0) := Heap.get?_push_size _ rfl
  refine wpAny_bind (wpAny_holding (wpAny_call_entry slot_list_sort ⟨_, hoL, rfl⟩ entry_list_sort (list_sort_tree hoL hI (by rw [hl, hlen]; lia) fun out ns' a1 a2 a3 => ⟨_, rfl, ?_⟩) (args_list_sort _)))
  have en : ns' = sortZ (kvs.map (·.1)) := by rw [← f.1]; exact sortZ_eq a2 a3
  subst en
  obtain ⟨e, hat'⟩ := sortedHeap_at (out := out) hoL
  have hk' : ∀ b o, s.heap.get? b = some o → (sortedHeap (h'.push { cls := .type "list", data := .seq acc.toList.toArray }) h'.objs.size acc.toList out).get? b = some o := fun b o e => by
    have e1 := hk b o e
    rw [sortedHeap_old (Nat.ne_of_lt (Heap.lt_size e1)) (by rw [Heap.size_push]; exact Nat.lt_succ_of_lt (Heap.lt_size e1))]
    exact Heap.get?_push_of_some _ e1
  have hfr : ¬ Held H X h'.objs.size := by
    refine S.unheld ?_
    cases q : s.heap.get? h'.objs.size with
    | none => rfl
    | some o => exact absurd (Heap.lt_size (hk _ _ q)) (Nat.lt_irrefl _)
  have rr : VRels B (Held H X) (sortedHeap (h'.push { cls := .type "list", data := .seq acc.toList.toArray }) h'.objs.size acc.toList out) (intsL (sortZ (kvs.map (·.1)))) out.toList := of_intsAre a1
  refine wpAny_pure ⟨_, rfl, .lst (intsL (sortZ (kvs.map (·.1)))), H, .lst (vs := out.toList) (n := e) ?_ hfr rr.1 rr.2, S.grown hk', ⟨⟨_, _, rfl⟩, Kept.grown hk'⟩, q⟩
  exact hat'

/-! ### slices -/

theorem W_uptoL {o : Expr} {k kk : Nat} {p1 p2 pos : Pos} {Q : AVal → AHeap → Prop} (h : W B d sc ρ o (fun a H₁ => ∃ xs, IsSeq H₁ a xs ∧ xs.length ≤ 100000 ∧ Q (.lst (xs.take k)) H₁) H) :
    W B d sc ρ (.Subscript o (.Slice none (some (.Constant (.int k) kk p1)) none p2) pos) Q H := fun A env X s R E S L => by
  refine Subscript_ (monoOk (h A env X s R E S L) fun v s₁ ⟨a, H₁, r₁, S₁, t₁, xs, i, hz, q₁⟩ => ?_)
  obtain ⟨x, vs, n, rfl, hL, f⟩ := seq_of S₁ r₁ i
  refine wpAny_Slice (wpAny_pure (wpAny_Constant_int (k := kk) (pos := p1) (wpAny_pure ?_)))
  have hL' := (hL.isList.push { cls := .type "slice", data := .fields #[.none, .int k s₁.toks, .none] })
  refine tail_any hL'.typeIs slot_list_getitem.lookup (wpAny_getItem_list_slice hL' (Heap.IsSliceOf.new ..) .none (.int _ _) .none (by simp) ?_ (by rw [List.size_toArray, f.1, sizeLine_eq]; lia)) (by with_unfolding_all rfl)
  rw [slicePick_upto']
  have f' : VRels B (Held H₁ X) s₁.heap (xs.take k) (vs.take k) := ⟨by simp [f.1], fun i x v a b => by
    rw [List.getElem?_take] at a b
    split at a
    · rename_i hi; rw [if_pos hi] at b; exact f.2 i x v a b
    · cases a⟩
  refine ⟨.lst (xs.take k), H₁, .lst (vs := vs.take k) (n := 0) (Heap.get?_push_size _ rfl) (S₁.push _).fresh f'.1 fun i x v a b => (f'.2 i x v a b).mono ((KeptD.push _).trans (KeptD.push _)), (S₁.push _).push _, t₁.trans ⟨⟨_, _, rfl⟩, (Kept.push _).trans (Kept.push _)⟩, q₁⟩

theorem adjust_upto (a n : Nat) (ha : a ≤ n) : Builtin.Slice.sliceAdjust none (some (a : Int)) 1 (n : Int) = (0, (a : Int)) := by
  unfold Builtin.Slice.sliceAdjust
  have h1 : ¬ ((1 : Int) < 0) := by lia
  have h2 : ¬ ((a : Int) < 0) := by lia
  simp only [h1, h2, if_false]
  congr 1
  lia
theorem places_upto (a : Nat) : Builtin.Slice.slicePlaces 0 (a : Int) 1 = a := by
  unfold Builtin.Slice.slicePlaces
  have h1 : (1 : Int) > 0 := by lia
  simp only [h1, if_true, Int.ediv_one]
  split <;> lia
theorem pick_upto (xs : Array Value) (a : Nat) : ((List.range a).filterMap fun (k : Nat) => xs[((0 : Int) + (k : Int) * 1).toNat]?).toArray = (xs.toList.take a).toArray := by
  have e : (fun (k : Nat) => xs[((0 : Int) + (k : Int) * 1).toNat]?) = fun k => xs[0 + k]? := by
    funext k
    have : ((0 : Int) + (k : Int) * 1).toNat = 0 + k := by lia
    rw [this]
  rw [e]
  have := pick_run xs 0 a
  rw [List.filterMap_map] at this
  have e2 : ((fun x => xs[x]?) ∘ fun x => 0 + x) = fun k => xs[0 + k]? := rfl
  rw [e2] at this
  rw [this, List.drop_zero]
theorem getItem_tuple_upto {prog : Program} {w : World} {A : Around} {E : Value → Shared → Prop} {s : Shared} {t sl : Addr} {items : Array Value} {a : Nat} {u : Tok} {Q : Value → Shared → Prop} (ht : IsTup s.heap t items) (hs : s.heap.IsSliceOf sl .none (.int a u) .none) (ha : a < items.size)
    (h : Q (.ref s.heap.objs.size) { s with heap := s.heap.push { cls := .type "tuple", data := .seq (items.toList.take a).toArray } })
    (hsz : items.size ≤ sizeLine) : wpAny (model prog w) A (getItem (.ref t) (.ref sl)) Q E s := by
  have hdrop : sizeOk (.seq (items.toList.take a).toArray) := by
    show (items.toList.take a).toArray.size ≤ sizeLine
    rw [List.size_toArray, List.length_take, Array.length_toList]
    lia
  obtain ⟨os, hos, hcs, hds⟩ := id hs
  have hTs : s.TypeIs (.ref sl) "slice" := ⟨os, hos, hcs⟩
  unfold getItem
  try with_reducible refine wpAny_holding ?_
  first | refine wpAny_bind (wpAny_pure ?_) | skip
  refine wpAny_bind (wpAny_sequenceKey ht.typeIs (by decide) ?_)
  refine wpAny_bind (wpAny_callSpecial?_slot (name := Str.ofString "__getitem__") ht.typeIs slot_tuple_getitem
    (wpAny_call_entry slot_tuple_getitem ht.typeIs entry_tuple_getitem ?_ (args_tuple_getitem _ _)))
  show wpAny _ _ (Builtin.Tuple.tupleItemsOf (.ref t) >>= _) _ _ s
  refine wpAny_bind (tupleItemsOf_ ht ?_)
  refine wpAny_bind (wpAny_typeOf hTs ?_)
  rw [if_pos (by decide)]
  have sa : ∀ {A : Around} {Q : Int × Int × Nat → Shared → Prop} {E : Value → Shared → Prop}, Q (0, 1, a) s → wpAny (model prog w) A (Builtin.Slice.sliceApplied (.ref sl) (pure (items.size : Int))) Q E s := fun {A Q E} h => by
    unfold Builtin.Slice.sliceApplied Builtin.Slice.sliceFields
    refine wpAny_bind (wpAny_bind (wpAny_field hos hds (x := .none) rfl (wpAny_bind (wpAny_field hos hds (x := .int a u) rfl (wpAny_bind (wpAny_field hos hds (x := .none) rfl (wpAny_pure ?_)))))))
    refine wpAny_bind (slicePart_none ?_)
    show wpAny _ _ (if ((1 : Int) == 0) = true then _ else _) _ _ s
    rw [if_neg (by decide)]
    refine wpAny_bind (slicePart_none (wpAny_bind (slicePart_int (wpAny_bind (wpAny_pure ?_)))))
    show wpAny _ _ (match Builtin.Slice.sliceAdjust none (some (a : Int)) 1 (items.size : Int) with | (lo, hi) => pure (lo, (1 : Int), Builtin.Slice.slicePlaces lo hi 1)) _ _ s
    rw [adjust_upto a items.size (Nat.le_of_lt ha)]
    show wpAny _ _ (pure ((0 : Int), (1 : Int), Builtin.Slice.slicePlaces 0 (a : Int) 1)) _ _ s
    rw [places_upto a]
    exact wpAny_pure h
  refine wpAny_bind (sa ?_)
  have hno : ¬ (((0 : Int) == 0 && (1 : Int) == 1 && (a == items.size)) = true) := by
    have : (a == items.size) = false := by rw [beq_eq_false_iff_ne]; lia
    rw [this]; simp
  show wpAny _ _ (if ((0 : Int) == 0 && (1 : Int) == 1 && (a == items.size)) = true then _ else _) _ _ s
  rw [if_neg hno, pick_upto items a]
  first
    | exact wpAny_bind (m := Builtin.Tuple.tupleExact _) (wpAny_newObj_type (wpAny_pure ⟨_, rfl, wpAny_pure h⟩) hdrop)
    | exact wpAny_bind (m := Builtin.Tuple.tupleExact _) (wpAny_newObj_type (wpAny_bind (wpAny_pure (wpAny_pure ⟨_, rfl, wpAny_pure h⟩))) hdrop)
    | exact wpAny_bind (wpAny_bind (m := Builtin.Tuple.tupleExact _) (wpAny_newObj_type (wpAny_pure (wpAny_pure ⟨_, rfl, wpAny_pure h⟩)) hdrop))
    | exact wpAny_bind (wpAny_bind (m := Builtin.Tuple.tupleExact _) (wpAny_newObj_type (wpAny_pure ⟨_, rfl, wpAny_pure h⟩) hdrop))

theorem W_uptoT {o : Expr} {k kk : Nat} {p1 p2 pos : Pos} {Q : AVal → AHeap → Prop} (h : W B d sc ρ o (fun a H₁ => ∃ xs, a = .tup xs ∧ k < xs.length ∧ xs.length ≤ 100000 ∧ Q (.tup (xs.take k)) H₁) H) :
    W B d sc ρ (.Subscript o (.Slice none (some (.Constant (.int k) kk p1)) none p2) pos) Q H := fun A env X s R E S L => by
  refine Subscript_ (monoOk (h A env X s R E S L) fun v s₁ ⟨a, H₁, r₁, S₁, t₁, xs, e, hk, hz, q₁⟩ => ?_)
  subst e
  obtain ⟨x, vs, n, rfl, hL, f⟩ := tup_of r₁
  refine wpAny_Slice (wpAny_pure (wpAny_Constant_int (k := kk) (pos := p1) (wpAny_pure ?_)))
  have hL' : IsTup (s₁.heap.push { cls := .type "slice", data := .fields #[.none, .int k s₁.toks, .none] }) x vs.toArray := ⟨_, Heap.get?_push_of_some _ hL, rfl, n, rfl⟩
  refine tail_any (s := { s₁ with heap := s₁.heap.push { cls := .type "slice", data := .fields #[.none, .int k s₁.toks, .none] }, toks := s₁.toks + 1 }) hL'.typeIs slot_tuple_getitem.lookup (getItem_tuple_upto hL' (Heap.IsSliceOf.new ..) (by rw [List.size_toArray, f.1]; exact hk) ?_ (by rw [List.size_toArray, f.1, sizeLine_eq]; lia)) (by with_unfolding_all rfl)
  have f' : VRels B (Held H₁ X) s₁.heap (xs.take k) (vs.take k) := ⟨by simp [f.1], fun i x v a b => by
    rw [List.getElem?_take] at a b
    split at a
    · rename_i hi; rw [if_pos hi] at b; exact f.2 i x v a b
    · cases a⟩
  refine ⟨.tup (xs.take k), H₁, .tup (vs := vs.take k) (n := 0) (Heap.get?_push_size _ rfl) (S₁.push _).fresh f'.1 fun i x v a b => (f'.2 i x v a b).mono ((KeptD.push _).trans (KeptD.push _)), (S₁.push _).push _, t₁.trans ⟨⟨_, _, rfl⟩, (Kept.push _).trans (Kept.push _)⟩, q₁⟩

theorem W_fromT {o : Expr} {k kk : Nat} {p1 p2 pos : Pos} {Q : AVal → AHeap → Prop} (h : W B d sc ρ o (fun a H₁ => ∃ xs, a = .tup xs ∧ k ≤ xs.length ∧ xs.length ≤ 100000 ∧ Q (.tup (xs.drop k)) H₁) H) (h1 : 1 ≤ k) :
    W B d sc ρ (.Subscript o (.Slice (some (.Constant (.int k) kk p1)) none none p2) pos) Q H := fun A env X s R E S L => by
  refine Subscript_ (monoOk (h A env X s R E S L) fun v s₁ ⟨a, H₁, r₁, S₁, t₁, xs, e, hk, hz, q₁⟩ => ?_)
  subst e
  obtain ⟨x, vs, n, rfl, hL, f⟩ := tup_of r₁
  refine wpAny_Slice (wpAny_Constant_int (k := kk) (pos := p1) (wpAny_pure (wpAny_pure ?_)))
  have hL' : IsTup (s₁.heap.push { cls := .type "slice", data := .fields #[.int k s₁.toks, .none, .none] }) x vs.toArray := ⟨_, Heap.get?_push_of_some _ hL, rfl, n, rfl⟩
  refine tail_any (s := { s₁ with heap := s₁.heap.push { cls := .type "slice", data := .fields #[.int k s₁.toks, .none, .none] }, toks := s₁.toks + 1 }) hL'.typeIs slot_tuple_getitem.lookup (getItem_tuple_from hL' (Heap.IsSliceOf.new ..) h1 (by rw [List.size_toArray, f.1]; exact hk) ?_ (by rw [List.size_toArray, f.1, sizeLine_eq]; lia)) (by with_unfolding_all rfl)
  have f' : VRels B (Held H₁ X) s₁.heap (xs.drop k) (vs.drop k) := ⟨by simp [f.1], fun i x v a b => by
    rw [List.getElem?_drop] at a b
    exact f.2 _ x v a b⟩
  refine ⟨.tup (xs.drop k), H₁, .tup (vs := vs.drop k) (n := 0) (Heap.get?_push_size _ rfl) (S₁.push _).fresh f'.1 fun i x v a b => (f'.2 i x v a b).mono ((KeptD.push _).trans (KeptD.push _)), (S₁.push _).push _, t₁.trans ⟨⟨_, _, rfl⟩, (Kept.push _).trans (Kept.push _)⟩, q₁⟩
end

/-! ## a dict from a list of pairs; a dict display of one entry -/

theorem entry_dict_loop : entryFor table "dict.update.loop" = some Builtin.«dict.update.loop» := entryFor_of_tree (by kernel_rfl)
theorem plain_dict_loop : plainId "dict.update.loop" = true := by decide +kernel
theorem list_keys_none : typeLookup (.type "list") "keys" = pure none := am_miss_of_fast (by decide +kernel)

theorem code_dict_loop {prog : Program} {w : World} {A : Around} {R : Result → Shared → Prop} {I L D : Addr} {items : Array Value} {kvs : List (Int × Value)} {h0 : Heap} (hh : A.in1.handled = none) (hLI : L ≠ I) (hDI : D ≠ I) (hDL : L ≠ D)
    (hn : items.size = kvs.length) (hz : kvs.length ≤ 1000)
    (hp : ∀ (j : Nat) (v : Value), items[j]? = some v → ∃ t k x n tk, v = .ref t ∧ t ≠ I ∧ t ≠ D ∧ kvs[j]? = some (k, x) ∧ h0.get? t = some { cls := .type "tuple", dict := none, data := .seq #[.int k tk, x] n, slots := #[] }) :
    ∀ (k i : Nat) (s : Shared), items.size - i = k → i ≤ items.size → s.heap.IsListIter I L i → s.heap.IsList L items → (∀ b o, b ≠ I → b ≠ D → h0.get? b = some o → s.heap.get? b = some o) →
      s.heap.DictOf (intKind prog w) D (merged [] (kvs.take i)) →
      (∀ h' tk, h'.DictOf (intKind prog w) D (merged [] kvs) → (∀ b o, b ≠ I → b ≠ D → h0.get? b = some o → h'.get? b = some o) → R (.ok (.ret .none)) { s with heap := h', toks := tk }) →
      codeAny (model prog w) A (.builtin "dict.update.loop" ⟨[.ref D, .ref I, rawInt i, .none], []⟩) R s := by
  have W := Walks.list (prog := prog) (w := w) hh I L hLI items
  intro k
  induction k with
  | zero =>
    intro i s hk hi st hL hkeep hD hR
    have hin : i = items.size := by lia
    subst hin
    refine codeAny_builtin entry_dict_loop ?_
    rw [Around.under_plainId plain_dict_loop _]
    show wpAny _ A.in1 (pyNext (.ref I) >>= _) _ _ s
    refine wpAny_bind (W.done s _ _ ⟨st, hL⟩ fun h' tk hk' => ?_)
    show wpAny _ A.in1 (Builtin.Dict.addKeywords D [] >>= _) _ _ _
    refine wpAny_bind (wpAny_pure (wpAny_pure (hR h' tk ?_ ?_)))
    · rw [hn, List.take_length] at hD
      exact hD.at (fun o e => hk' D o (by simpa using hDI) e)
    · exact fun b o n1 n2 e => hk' b o (by simpa using n1) (hkeep b o n1 n2 e)
  | succ k ih =>
    intro i s hk hi st hL hkeep hD hR
    have hlt : i < items.size := by lia
    refine codeAny_builtin entry_dict_loop ?_
    rw [Around.under_plainId plain_dict_loop _]
    show wpAny _ A.in1 (pyNext (.ref I) >>= _) _ _ s
    refine wpAny_bind (W.item i s _ _ hlt ⟨st, hL⟩ fun v h' tk hP st' hk' => ?_)
    obtain ⟨t, k0, x, n, tk0, rfl, t1, t2, hkv, ht⟩ := hp i v hP
    have ht' : h'.get? t = some { cls := .type "tuple", dict := none, data := .seq #[.int k0 tk0, x] n, slots := #[] } := hk' t _ (by simpa using t1) (hkeep t _ t1 t2 ht)
    have hT : ∀ (tk : Nat), Shared.TypeIs { s with heap := h', toks := tk } (.ref t) "tuple" := fun _ => ⟨_, ht', rfl⟩
    have hD' : h'.DictOf (intKind prog w) D (merged [] (kvs.take i)) := hD.at (fun o e => hk' D o (by simpa using hDI) e)
    show wpAny _ A.in1 (holding [Value.ref t] _ >>= _) _ _ _
    refine wpAny_bind (wpAny_holding (wpAny_bind (wpAny_tryCatch ?_)))
    unfold Builtin.Dict.pairItems
    refine wpAny_bind (wpAny_typeOf (hT _) ?_)
    rw [if_pos (by decide)]
    refine wpAny_bind ?_
    unfold seqItems?
    refine wpAny_bind (wpAny_load ht' (wpAny_pure (wpAny_pure ?_)))
    show wpAny _ A.in1 (holding [_, _] (dictSet D (.int k0 tk0) x)) _ _ _
    have hlen : (merged [] (kvs.take i)).length ≤ sizeLine := by
      have := merged_length_le ([] : List (Int × Value)) (kvs.take i)
      rw [sizeLine_eq]; simp at this; lia
    refine wpAny_holding (wpAny_dictSet_pairs (knd := intKind prog w) (k := k0) (intKind_is _ _ _ _) hD' (fun h2 hD2 hs2 => ?_) hlen)
    have hD3 : h2.DictOf (intKind prog w) D (merged [] (kvs.take (i + 1))) := by rw [merged_take_succ _ _ _ _ hkv]; exact hD2
    refine wpAny_pure ⟨plainId_quiet plain_dict_loop _, ih (i + 1) _ (by lia) hlt ?_ ?_ ?_ hD3 ?_⟩
    · exact st'.1.at fun o e => (hs2.2 I (Ne.symm hDI)).trans e
    · exact st'.2.at fun o e => (hs2.2 L hDL).trans e
    · exact fun b o n1 n2 e => (hs2.2 b n2).trans (hk' b o (by simpa using n1) (hkeep b o n1 n2 e))
    · exact fun h3 tk3 a b => hR h3 tk3 a b

theorem getAttrQ_miss_list {prog : Program} {w : World} {A : Around} {E : Value → Shared → Prop} {s : Shared} {a : Addr} {o : Obj} {xs : Array Value} {k : Nat} {name : Str} {Q : Option Value → Shared → Prop}
    (hx : s.heap.get? a = some o) (hc : o.cls = .type "list") (hdat : o.data = .seq xs k) (hd : o.dict = none) (hmiss : typeLookup (.type "list") name = pure none) (hname : (["__module__", "__name__", "__qualname__", "__doc__", "__annotations__"] : List Str).contains name = false) (hA : A.handled = none)
    (h : ∀ h' tk, (∀ b o, s.heap.get? b = some o → h'.get? b = some o) → Q none { s with heap := h', toks := tk }) (hsz : name.length + 100 ≤ sizeLine := by size_fits) :
    wpAny (model prog w) A (getAttr? (.ref a) name) Q E s := by
  obtain ⟨c, dct, dat, sl⟩ := o
  simp only at hc hdat hd
  subst hc hdat hd
  obtain ⟨hp, g, d, tk, os⟩ := s
  have hT : ∀ tk', (⟨hp, g, d, tk', os⟩ : Shared).TypeIs (.ref a) "list" := fun _ => ⟨_, hx, rfl⟩
  have f1 := sub_AttributeError
  have f3 := F.slot_list_getattribute.lookup
  have f4 := F.slot_list_getattribute.bind (.ref a)
  have f5 := am_list_getattr_none
  unfold getAttr? getAttrBy? getAttrBy
  repeat (any_goals (first | assumption | exact hT _ | ((with_reducible show wpAny _ _ (call (Value.builtin "list.__getattribute__") _ _) _ _ _); refine call_meets F.slot_list_getattribute (hT _) am_entry_list_getattribute (F.args_list_getattribute_2 _ _) (meets_getattribute_miss_list a xs k sl name _ hmiss hname hsz) ⟨hx, hA, fun h' tk' e hx' => ?_⟩) | wp_step))
  obtain ⟨t', u', he⟩ := hx'.there
  show wpAny _ _ (getattributeRaised _ _ _ _ _ _ _) _ _ _
  unfold getattributeRaised
  repeat (any_goals (first | assumption | wp_step))
  exact h _ _ hx'.keeps

theorem call_dict_pairs {prog : Program} {w : World} {A : Around} {E : Value → Shared → Prop} {s : Shared} {L : Addr} {n : Nat} {items : List Value} {kvs : List (Int × Value)} {Q : Value → Shared → Prop} (hh : A.handled = none) (hL : IsL s.heap L items.toArray n)
    (hn : items.length = kvs.length) (hz : kvs.length ≤ 1000)
    (hp : ∀ (j : Nat) (v : Value), items[j]? = some v → ∃ t k x n tk, v = .ref t ∧ kvs[j]? = some (k, x) ∧ s.heap.get? t = some { cls := .type "tuple", dict := none, data := .seq #[.int k tk, x] n, slots := #[] })
    (h : ∀ h' tk, h'.DictOf (intKind prog w) s.heap.objs.size (merged [] kvs) → (∀ b o, s.heap.get? b = some o → h'.get? b = some o) → Q (.ref s.heap.objs.size) { s with heap := h', toks := tk }) :
    wpAny (model prog w) A (call (.type "dict") [.ref L]) Q E s := by
  refine callType_codes (Q₁ := fun obj s₁ => obj = .ref s.heap.objs.size ∧ s₁ = { s with heap := s.heap.push { cls := .type "dict", data := .dict #[] } }) F.kt_called_dict (F.kt_typeCall_dict_1 _) F.entry_dict_init (kt_code_dict_new _ ⟨rfl, rfl⟩) ?_
  rintro obj s₁ ⟨rfl, rfl⟩
  have hnew : (s.heap.push { cls := .type "dict", data := .dict #[] }).DictOf (intKind prog w) s.heap.objs.size [] := Heap.DictOf.new s.heap
  refine ⟨hnew.typeIs, F.args_dict_init_2 _ _, ?_⟩
  have hL1 : IsL (s.heap.push { cls := .type "dict", data := .dict #[] }) L items.toArray n := Heap.get?_push_of_some _ hL
  unfold Builtin.«dict.__init__»
  refine wpAny_bind ?_
  unfold Builtin.Dict.selfAndRest
  refine wpAny_bind (wpAny_notOrdered_dict hnew.typeIs ?_)
  show wpAny _ _ (pure (s.heap.objs.size, [Value.ref L])) _ _ _
  refine wpAny_pure ?_
  show wpAny _ _ (Builtin.Dict.updateFrom "dict.__init__" s.heap.objs.size (.ref L) [] .none) _ _ _
  unfold Builtin.Dict.updateFrom
  refine wpAny_bind (wpAny_typeOf (T := "list") ⟨_, hL1, rfl⟩ ?_)
  rw [if_pos (by decide)]
  refine wpAny_bind (getAttrQ_miss_list hL1 rfl rfl rfl list_keys_none (by decide +kernel) hh fun h1 tk1 k1 => ?_)
  have hL2 : IsL h1 L items.toArray n := k1 _ _ hL1
  show wpAny _ _ (do rule _; let it ← pyIter (.ref L); again _) _ _ _
  refine wpAny_bind (wpAny_rule ?_)
  refine wpAny_bind (wpAny_pyIter_list hL2.isList ?_)
  have lt0 : @LT.lt Nat _ L s.heap.objs.size := Heap.lt_size hL
  have lt1 : @LT.lt Nat _ s.heap.objs.size h1.objs.size := Heap.lt_size (k1 _ _ (Heap.get?_push_size _ rfl))
  refine wpAny_pure ⟨plainId_quiet plain_dict_loop _, ?_⟩
  have hnew1 : h1.DictOf (intKind prog w) s.heap.objs.size [] := hnew.at fun o e => k1 _ o e
  refine code_dict_loop (A := A.in1) (kvs := kvs) (h0 := s.heap) hh (Nat.ne_of_lt (Nat.lt_trans lt0 lt1)) (Nat.ne_of_lt lt1) (Nat.ne_of_lt lt0) (by rw [List.size_toArray, hn]) hz (fun j v e => ?_) items.toArray.size 0 _ rfl (Nat.zero_le _)
    ?_ ?_ ?_ ?_ fun h' tk hD kk => ?_
  rotate_left
  · exact ⟨_, Heap.get?_push_size _ rfl, rfl, rfl⟩
  · exact hL2.isList.push _
  · exact fun b o n1 n2 e => Heap.get?_push_of_some _ (k1 _ _ (Heap.get?_push_of_some _ e))
  · exact hnew1.push _
  rotate_left
  · obtain ⟨t, k, x, n, tk, e1, e2, e3⟩ := hp j v (by simpa using e)
    have lt2 : @LT.lt Nat _ t s.heap.objs.size := Heap.lt_size e3
    exact ⟨t, k, x, n, tk, e1, Nat.ne_of_lt (Nat.lt_trans lt2 lt1), Nat.ne_of_lt lt2, e2, e3⟩
  · refine ⟨rfl, h h' tk hD fun b o e => ?_⟩
    have lt2 : @LT.lt Nat _ b s.heap.objs.size := Heap.lt_size e
    exact kk b o (Nat.ne_of_lt (Nat.lt_trans lt2 lt1)) (Nat.ne_of_lt lt2) e

/-! ## the parts of the text -/

noncomputable def stAt (i : Nat) : Stmt := (PySem.Challenge.pw_on0296_01.main.body.drop i).headD (.Pass ⟨0, 0, 0, 0⟩)
noncomputable def bod : Stmt → List Stmt
  | .FunctionDef _ _ b _ _ _ _ _ _ _ => b
  | .ClassDef _ _ _ b _ _ _ _ _ _ _ => b
  | _ => []
noncomputable def prm : Stmt → Arguments
  | .FunctionDef _ p _ _ _ _ _ _ _ _ => p
  | _ => ⟨[], [], none, [], [], none, []⟩
noncomputable def scp : Stmt → Scope
  | .FunctionDef _ _ _ _ _ _ s _ _ _ => s
  | .ClassDef _ _ _ _ _ _ s _ _ _ _ => s
  | _ => default
noncomputable def nam : Stmt → Str
  | .FunctionDef n _ _ _ _ _ _ _ _ _ => n
  | .ClassDef n _ _ _ _ _ _ _ _ _ _ => n
  | _ => ""
noncomputable def meAt (i j : Nat) : Stmt := ((bod (stAt i)).drop j).headD (.Pass ⟨0, 0, 0, 0⟩)

theorem ar1 {P : List Value → Prop} (h : ∀ a, P [a]) : ∀ vs : List Value, vs.length = 1 → P vs
  | [a], _ => h a
theorem ar2 {P : List Value → Prop} (h : ∀ a b, P [a, b]) : ∀ vs : List Value, vs.length = 2 → P vs
  | [a, b], _ => h a b
theorem ar3 {P : List Value → Prop} (h : ∀ a b c, P [a, b, c]) : ∀ vs : List Value, vs.length = 3 → P vs
  | [a, b, c], _ => h a b c
theorem ar4 {P : List Value → Prop} (h : ∀ a b c e, P [a, b, c, e]) : ∀ vs : List Value, vs.length = 4 → P vs
  | [a, b, c, e], _ => h a b c e
theorem ar5 {P : List Value → Prop} (h : ∀ a b c e f, P [a, b, c, e, f]) : ∀ vs : List Value, vs.length = 5 → P vs
  | [a, b, c, e, f], _ => h a b c e f
structure Facts (B : Base) where
  fn : Nat → Addr
  me : Nat → Nat → Addr
  fnok : ∀ i ∈ [9, 10, 11, 13, 14, 15, 16, 19, 20, 21, 22, 23, 24, 25, 26, 27, 30, 31, 32, 33, 34, 35, 36, 37, 38, 39, 40, 41, 42, 43, 44, 45],
    B.mg (nam (stAt i)) = some (.ref (fn i)) ∧ keepIn B.K (.ref (fn i)) = true ∧ FnIs B.K (fn i) (prm (stAt i)) (bod (stAt i)) (scp (stAt i))
  clsok : ∀ i ∈ [8, 12, 17, 18, 28], B.mg (nam (stAt i)) = some (.ref (fn i)) ∧ keepIn B.K (.ref (fn i)) = true ∧ ClsIs B.K (fn i) (me i 0)
  meok : ∀ p ∈ [(8, 1), (8, 2), (12, 1), (12, 2), (12, 3), (17, 1), (17, 2), (18, 1), (18, 2), (18, 3), (18, 4), (28, 1), (28, 2), (28, 3), (28, 4), (28, 5)],
    MethOf B (fn p.1) (nam (meAt p.1 p.2)) (me p.1 p.2) ∧ FnIs B.K (me p.1 p.2) (prm (meAt p.1 p.2)) (bod (meAt p.1 p.2)) (scp (meAt p.1 p.2))
  inok : ∀ i ∈ [8, 12, 17, 18, 28], FnIs B.K (me i 0) (prm (meAt i 0)) (bod (meAt i 0)) (scp (meAt i 0))
  field : ∀ p ∈ ([(8, "result"), (8, "word"), (8, "number"), (8, "args"), (8, "datum"), (8, "results"), (8, "labels"), (12, "word"), (12, "fun"), (12, "args"), (12, "to"), (12, "other"), (12, "var"),
    (17, "label"), (17, "sort"), (17, "params"), (17, "rest"), (17, "var"), (17, "home"), (17, "parent"), (17, "title"), (17, "ops"), (17, "last"), (18, "table"), (18, "entry"), (28, "there")] : List (Nat × Str)), FieldOf B (fn p.1) p.2
  text : ∀ p ∈ ([("FUN", "fun"), ("CONT", "cont"), ("CALL", "call"), ("JUMP", "jump"), ("GIVE", "give"), ("BRANCH", "if")] : List (Str × Str)), ∃ t, B.mg p.1 = some (.str p.2 t)
  free : ∀ p ∈ (["abs", "len", "range", "list", "sorted", "dict"] : List Str), B.mg p = none

section
variable {B : Base} {H H' : AHeap} {X D D' : Addr → Prop} {h h' : Heap} {env : Env} {ρ ρ' : Loc} {d : Nat} {sc scope : Scope}

inductive CallG (B : Base) (d : Nat) (x : Str) (xs : List AVal) (Q : AVal → AHeap → Prop) (H : AHeap) : Prop
  | mk (f : Addr) (e : B.mg x = some (.ref f)) (k : keepIn B.K (.ref f) = true) (c : CallF B d f xs Q H) : CallG B d x xs Q H
inductive CallM (B : Base) (d : Nat) (C : Addr) (x : Str) (xs : List AVal) (Q : AVal → AHeap → Prop) (H : AHeap) : Prop
  | mk (f : Addr) (m : MethOf B C x f) (c : CallF B d f xs Q H) : CallM B d C x xs Q H

theorem CallG.mono {x : Str} {xs : List AVal} {Q Q' : AVal → AHeap → Prop} (h : CallG B d x xs Q H) (k : ∀ v H', Q v H' → Q' v H') : CallG B d x xs Q' H := let ⟨f, a, b, c⟩ := h; ⟨f, a, b, VL_mono c k⟩

theorem Room.le {d e : Nat} {A : Around} (h : d ≤ e) (r : Room e A) : Room d A := ⟨r.1, by have := r.2.1; lia, by have := r.2.2; lia⟩
theorem VL_le {d e : Nat} {t : List Value → Sem Value} {xs : List AVal} {Q : AVal → AHeap → Prop} (hd : d ≤ e) (h : VL B d t xs Q H) : VL B e t xs Q H := fun A X s vs R S r => h A X s vs (R.le hd) S r

noncomputable abbrev CallGQ (B : Base) (d : Nat) (x : Str) (Q : AVal → AHeap → Prop) : List AVal → AHeap → Prop := fun xs H₁ => CallG B d x xs Q H₁
noncomputable abbrev CallMQ (B : Base) (d : Nat) (C : Addr) (name : Str) (a : AVal) (Q : AVal → AHeap → Prop) : List AVal → AHeap → Prop := fun xs H₂ => CallM B d C name (a :: xs) Q H₂
/-- a call of a global name: the arguments first, what is called then -/
theorem W_callg {x : Str} {p pos : Pos} {args : List Expr} {Q : AVal → AHeap → Prop} (hk : sc.names.lookup x = some .globalImplicit)
    (h : WL B d sc ρ args (CallGQ B d x Q) H) (hg : ∃ f, B.mg x = some (.ref f) ∧ keepIn B.K (.ref f) = true) (hd : (x == ("__debug__" : Str)) = false := by decide +kernel) (hp : ∀ env pos, (backTo pos (starEach args env)).any (·.1) = false := by intro _ _; with_unfolding_all rfl) :
    W B d sc ρ (.Call (.Name x p) args [] pos) Q H := by
  obtain ⟨f, hg, hkeep⟩ := hg
  refine W_call hg hkeep hk (fun A env X s pos R E S L => monoOk (h A env X s pos R E S L) fun vs s' ⟨xs, H', r, S', t, f', e1, e2, q⟩ => ⟨xs, H', r, S', t, ?_⟩) hd hp
  rw [hg] at e1; cases e1; exact q

theorem WL_mono {es : List Expr} {Q Q' : List AVal → AHeap → Prop} (h : WL B d sc ρ es Q H) (k : ∀ x H', Q x H' → Q' x H') : WL B d sc ρ es Q' H := fun A env X s pos R E S L =>
  monoOk (h A env X s pos R E S L) fun f s' ⟨x, H', r, S', t, q⟩ => ⟨x, H', r, S', t, k _ _ q⟩

inductive MethQ (B : Base) (d : Nat) (sc : Scope) (ρ : Loc) (name : Str) (args : List Expr) (Q : AVal → AHeap → Prop) (a : AVal) (H : AHeap) : Prop
  | mk (C : Addr) (fs : List (Str × AVal)) (i : IsInst H a C fs) (n : lget fs name = none) (m : ∃ f, MethOf B C name f) (w : WL B d sc ρ args (CallMQ B d C name a Q) H) : MethQ B d sc ρ name args Q a H
/-- a call of a method of the text -/
theorem W_methg {o : Expr} {name : Str} {apos pos : Pos} {args : List Expr} {Q : AVal → AHeap → Prop}
    (h : W B d sc ρ o (MethQ B d sc ρ name args Q) H)
    (hbase : ∀ env, attributeBase o name env (eval o env) = eval o env := by intro _; with_unfolding_all rfl) (hline : (apos.endLine == pos.line) = true := by decide) (hn : args.length < 30 := by decide)
    (hp : ∀ env pos, (backTo pos (starEach args env)).any (·.1) = false := by intro _ _; with_unfolding_all rfl) : W B d sc ρ (.Call (.Attribute o name apos) args [] pos) Q H := by
  refine W_meth (W_mono h fun a H₁ ⟨C, fs, i, hf, ⟨f, M⟩, hw⟩ => ⟨C, fs, f, i, M, hf, WL_mono hw fun xs H₂ ⟨f', M', q⟩ => ?_⟩) hbase hline hn hp
  have : f' = f := by
    have a := M.find; have b := M'.find
    rw [a] at b; cases b; rfl
  subst this; exact q
end

section
variable {B : Base} {H H' : AHeap} {ρ ρ' : Loc} {d : Nat} {sc scope : Scope}

noncomputable def fnIdx : List Nat := [9, 10, 11, 13, 14, 15, 16, 19, 20, 21, 22, 23, 24, 25, 26, 27, 30, 31, 32, 33, 34, 35, 36, 37, 38, 39, 40, 41, 42, 43, 44, 45]
noncomputable def clIdx : List Nat := [8, 12, 17, 18, 28]
noncomputable def meIdx : List (Nat × Nat) := [(8, 1), (8, 2), (12, 1), (12, 2), (12, 3), (17, 1), (17, 2), (18, 1), (18, 2), (18, 3), (18, 4), (28, 1), (28, 2), (28, 3), (28, 4), (28, 5)]

theorem Facts.g (T : Facts B) (x : Str) (h : x ∈ (fnIdx ++ clIdx).map fun i => nam (stAt i)) : ∃ f, B.mg x = some (.ref f) ∧ keepIn B.K (.ref f) = true := by
  obtain ⟨i, hi, rfl⟩ := List.mem_map.mp h
  rcases List.mem_append.mp hi with hi | hi
  · have := T.fnok i hi; exact ⟨_, this.1, this.2.1⟩
  · have := T.clsok i hi; exact ⟨_, this.1, this.2.1⟩
theorem Facts.mt (T : Facts B) (i : Nat) (x : Str) (h : (i, x) ∈ meIdx.map fun p => (p.1, nam (meAt p.1 p.2))) : ∃ f, MethOf B (T.fn i) x f := by
  obtain ⟨p, hp, e⟩ := List.mem_map.mp h
  cases e
  exact ⟨_, (T.meok p hp).1⟩

noncomputable def Binds (st : Stmt) (names : List Str) : Prop := ∀ name qual doc pm an cdv ct (vs : List Value), vs.length = names.length → bindArgs (fnOf name qual (prm st) (bod st) (scp st) .none .none doc pm an cdv ct) ⟨vs, []⟩ = pure (names.zip vs)

theorem fn_start (T : Facts B) (i : Nat) {x : Str} {xs : List AVal} {Q : AVal → AHeap → Prop} (names : List Str) (hi : i ∈ fnIdx) (hx : nam (stAt i) = x) (hb : Binds (stAt i) names) (hs : scopeOK (scp (stAt i)) names = true) (hl : xs.length = names.length)
    (h : WS B d (scp (stAt i)) (zipL names xs) (bod (stAt i)) (RetQ Q) H) : CallG B (d + 1) x xs Q H := by
  obtain ⟨f1, f2, f3⟩ := T.fnok i hi
  exact ⟨T.fn i, hx ▸ f1, f2, CallF_of f3 hb hs hl h⟩
theorem me_start (T : Facts B) (i j : Nat) {x : Str} {xs : List AVal} {Q : AVal → AHeap → Prop} (names : List Str) (hi : (i, j) ∈ meIdx) (hx : nam (meAt i j) = x) (hb : Binds (meAt i j) names) (hs : scopeOK (scp (meAt i j)) names = true) (hl : xs.length = names.length)
    (h : WS B d (scp (meAt i j)) (zipL names xs) (bod (meAt i j)) (RetQ Q) H) : CallM B (d + 1) (T.fn i) x xs Q H := by
  obtain ⟨f1, f2⟩ := T.meok (i, j) hi
  exact ⟨T.me i j, hx ▸ f1, CallF_of f2 hb hs hl h⟩
theorem cl_start (T : Facts B) (i : Nat) {x : Str} {xs : List AVal} {Q : AVal → AHeap → Prop} (names : List Str) (hi : i ∈ clIdx) (hx : nam (stAt i) = x) (hb : Binds (meAt i 0) names) (hs : scopeOK (scp (meAt i 0)) names = true) (hl : xs.length + 1 = names.length)
    (h : ∀ a dx, a ≠ dx → H a = none → H dx = none → WS B d (scp (meAt i 0)) (zipL names (.ref a :: xs)) (bod (meAt i 0)) (RetQ fun v H' => v = .none ∧ Q (.ref a) H') (upd (upd H dx (some (.shadow a))) a (some (.inst (T.fn i) dx [])))) : CallG B (d + 2) x xs Q H := by
  obtain ⟨f1, f2, f3⟩ := T.clsok i hi
  exact ⟨T.fn i, hx ▸ f1, f2, CallF_new f3 (T.inok i hi) hb hs hl h⟩

theorem WA_name' {x : Str} {pos : Pos} {a : AVal} {Q : Loc → AHeap → Prop} (hv : isVar sc x = true) (e : lset ρ x a = ρ') (q : Q ρ' H) : WA B d sc ρ (.Name x pos) a Q H := WA_name hv (e ▸ q)
theorem U2_setattr' {a : Addr} {C dx : Addr} {fs fs' : List (Str × AVal)} {name : Str} {x : AVal} {Q : AHeap → Prop} (F : FieldOf B C name) (e : H a = some (.inst C dx fs)) (hz : fs.length ≤ 50) (e' : lset fs name x = fs') (q : Q (upd H a (some (.inst C dx fs')))) :
    U2 B d (fun o v => setAttr o name v) (.ref a) x Q H := U2_setattr F e hz (e' ▸ q)

inductive LenQ (Q : AVal → AHeap → Prop) (a : AVal) (H₁ : AHeap) : Prop
  | mk (n : Nat) (hn : n ≤ 100000) (i : (∃ xs, IsSeq H₁ a xs ∧ xs.length = n) ∨ (∃ kvs, IsDict H₁ a kvs ∧ kvs.length = n)) (q : Q (.int n) H₁) : LenQ Q a H₁
inductive SortQ (Q : AVal → AHeap → Prop) (a : AVal) (H₁ : AHeap) : Prop
  | mk (kvs : List (Int × AVal)) (i : IsDict H₁ a kvs) (hn : kvs.length < 64) (q : Q (.lst (intsL (sortZ (kvs.map (·.1))))) H₁) : SortQ Q a H₁
inductive ListQ (Q : AVal → AHeap → Prop) (a : AVal) (H₁ : AHeap) : Prop
  | mk (xs : List AVal) (i : IsSeq H₁ a xs) (hn : xs.length ≤ 100000) (q : Q (.lst xs) H₁) : ListQ Q a H₁
inductive RangeQ (Q : AVal → AHeap → Prop) (a : AVal) (H₁ : AHeap) : Prop
  | mk (n : Nat) (e : a = .int n) (q : Q (.rng n) H₁) : RangeQ Q a H₁
theorem W_len (T : Facts B) {arg : Expr} {p pos : Pos} {Q : AVal → AHeap → Prop} (h : W B d sc ρ arg (LenQ Q) H) (hk : sc.names.lookup ("len" : Str) = some .globalImplicit)
    (hp : ∀ env pos, (backTo pos (starEach [arg] env)).any (·.1) = false := by intro _ _; with_unfolding_all rfl) (he : ∀ env, starEach [arg] env = (false, eval arg env) :: starEach [] env := by intro _; with_unfolding_all rfl) :
    W B d sc ρ (.Call (.Name "len" p) [arg] [] pos) Q H :=
  W_callb (v := .builtin "len") (T.free "len" (by decide +kernel)) (by decide +kernel) hk (fun _ q => by cases q) (WL_cons (W_mono h fun a H₁ ⟨n, hn, i, q⟩ => WL_nil (by
    rcases i with ⟨xs, i, rfl⟩ | ⟨kvs, i, rfl⟩
    · exact VL_len i q hn
    · exact VL_lenD i q hn)) he) (hp := hp)
theorem W_sorted (T : Facts B) {arg : Expr} {p pos : Pos} {Q : AVal → AHeap → Prop} (h : W B d sc ρ arg (SortQ Q) H) (hk : sc.names.lookup ("sorted" : Str) = some .globalImplicit)
    (hp : ∀ env pos, (backTo pos (starEach [arg] env)).any (·.1) = false := by intro _ _; with_unfolding_all rfl) (he : ∀ env, starEach [arg] env = (false, eval arg env) :: starEach [] env := by intro _; with_unfolding_all rfl) :
    W B d sc ρ (.Call (.Name "sorted" p) [arg] [] pos) Q H :=
  W_callb (v := .builtin "sorted") (T.free "sorted" (by decide +kernel)) (by decide +kernel) hk (fun _ q => by cases q) (WL_cons (W_mono h fun a H₁ ⟨kvs, i, hn, q⟩ => WL_nil (VL_sortedD i hn q)) he) (hp := hp)
theorem W_abs (T : Facts B) {arg : Expr} {p pos : Pos} {Q : AVal → AHeap → Prop} (h : W B d sc ρ arg (fun a H₁ => ∃ i : Int, a = .int i ∧ Q (.int (if i < 0 then -i else i)) H₁) H) (hk : sc.names.lookup ("abs" : Str) = some .globalImplicit)
    (hp : ∀ env pos, (backTo pos (starEach [arg] env)).any (·.1) = false := by intro _ _; with_unfolding_all rfl) (he : ∀ env, starEach [arg] env = (false, eval arg env) :: starEach [] env := by intro _; with_unfolding_all rfl) :
    W B d sc ρ (.Call (.Name "abs" p) [arg] [] pos) Q H :=
  W_callb (v := .builtin "abs") (T.free "abs" (by decide +kernel)) (by decide +kernel) hk (fun _ q => by cases q) (WL_cons (W_mono h fun a H₁ ⟨i, e, q⟩ => WL_nil (by subst e; exact VL_abs q)) he) (hp := hp)
theorem W_listc (T : Facts B) {arg : Expr} {p pos : Pos} {Q : AVal → AHeap → Prop} (h : W B d sc ρ arg (ListQ Q) H) (hk : sc.names.lookup ("list" : Str) = some .globalImplicit)
    (hp : ∀ env pos, (backTo pos (starEach [arg] env)).any (·.1) = false := by intro _ _; with_unfolding_all rfl) (he : ∀ env, starEach [arg] env = (false, eval arg env) :: starEach [] env := by intro _; with_unfolding_all rfl) :
    W B d sc ρ (.Call (.Name "list" p) [arg] [] pos) Q H :=
  W_callb (v := .type "list") (T.free "list" (by decide +kernel)) (by decide +kernel) hk (fun _ q => by cases q) (WL_cons (W_mono h fun a H₁ ⟨xs, i, hn, q⟩ => WL_nil (VL_list i hn q)) he) (hp := hp)
theorem W_range (T : Facts B) {arg : Expr} {p pos : Pos} {Q : AVal → AHeap → Prop} (h : W B d sc ρ arg (RangeQ Q) H) (hk : sc.names.lookup ("range" : Str) = some .globalImplicit)
    (hp : ∀ env pos, (backTo pos (starEach [arg] env)).any (·.1) = false := by intro _ _; with_unfolding_all rfl) (he : ∀ env, starEach [arg] env = (false, eval arg env) :: starEach [] env := by intro _; with_unfolding_all rfl) :
    W B d sc ρ (.Call (.Name "range" p) [arg] [] pos) Q H :=
  W_callb (v := .type "range") (T.free "range" (by decide +kernel)) (by decide +kernel) hk (fun _ q => by cases q) (WL_cons (W_mono h fun a H₁ ⟨n, e, q⟩ => WL_nil (by subst e; exact VL_range q)) he) (hp := hp)

inductive AttrQ (B : Base) (name : Str) (Q : AVal → AHeap → Prop) (a : AVal) (H : AHeap) : Prop
  | mk (C : Addr) (fs : List (Str × AVal)) (v : AVal) (i : IsInst H a C fs) (F : FieldOf B C name) (e : lget fs name = some v) (q : Q v H) : AttrQ B name Q a H
theorem W_attrI {o : Expr} {name : Str} {pos : Pos} {Q : AVal → AHeap → Prop} (h : W B d sc ρ o (AttrQ B name Q) H)
    (he : ∀ env, eval (.Attribute o name pos) env = (do
      let v ← eval o env
      standAt pos.atName
      let r ← holding [v] (getAttr v name true)
      letTemporaryGo o v r
      pure r) := by intro _; with_unfolding_all rfl) : W B d sc ρ (.Attribute o name pos) Q H :=
  W_attr (W_mono h fun a H₁ ⟨C, fs, v, i, F, e, q⟩ => V1_attr F i e q) he

/-- a built-in method of a list or a dict -/
theorem W_bmeth {o : Expr} {name : Str} {apos pos : Pos} {args : List Expr} {T id : String} {Q : AVal → AHeap → Prop} (slot : Slot T name id) (pa : PlainAttrs T) (ty : typeOf (.builtin id) = pure (.type "method_descriptor"))
    (hT : ∀ (H : AHeap) (X : Addr → Prop) (s : Shared) (a : AVal) (v : Value), SRel B H X s.heap → VRel B (Held H X) s.heap a v → (T = "list" ∧ (∃ xs, IsSeq H a xs) ∨ T = "dict" ∧ ∃ kvs, IsDict H a kvs) → s.TypeIs v T ∧ ∀ x, v = .ref x → ∃ o, s.heap.get? x = some o ∧ o.dict = none)
    (h : W B d sc ρ o (fun a H₁ => (T = "list" ∧ (∃ xs, IsSeq H₁ a xs) ∨ T = "dict" ∧ ∃ kvs, IsDict H₁ a kvs) ∧ WL B d sc ρ args (fun xs H₂ => VL B d (fun vs => call (.builtin id) vs) (a :: xs) Q H₂) H₁) H)
    (hbase : ∀ env, attributeBase o name env (eval o env) = eval o env) (hline : (apos.endLine == pos.line) = true) (hn : args.length < 30)
    (hp : ∀ env pos, (backTo pos (starEach args env)).any (·.1) = false) : W B d sc ρ (.Call (.Attribute o name apos) args [] pos) Q H := by
  refine W_methAny (W_mono h fun a H₁ ⟨i, hw⟩ => ⟨.builtin id, fun A X s v pl S r Q' q' => ?_, fun h K => ⟨.machine, .inr (.inl rfl), .now⟩, hw⟩) hbase hline hn hp
  obtain ⟨t1, t2⟩ := hT H₁ X s a v S r i
  exact getMethod_builtin t1 pa slot ty t2 q'
theorem tyOf {T : String} (H : AHeap) (X : Addr → Prop) (s : Shared) (a : AVal) (v : Value) (S : SRel B H X s.heap) (r : VRel B (Held H X) s.heap a v) (i : T = "list" ∧ (∃ xs, IsSeq H a xs) ∨ T = "dict" ∧ ∃ kvs, IsDict H a kvs) :
    s.TypeIs v T ∧ ∀ x, v = .ref x → ∃ o, s.heap.get? x = some o ∧ o.dict = none := by
  rcases i with ⟨rfl, xs, i⟩ | ⟨rfl, kvs, i⟩
  · obtain ⟨x, vs, n, rfl, hL, f⟩ := seq_of S r i
    exact ⟨hL.isList.typeIs, fun y e => by cases e; exact ⟨_, hL, rfl⟩⟩
  · obtain ⟨x, kws, rfl, hD, hs, f⟩ := dict_of S r i
    exact ⟨hD.typeIs, fun y e => by cases e; exact hD.mapOf.noDict _ rfl⟩

inductive AppQ2 (p : Addr) (Q : AVal → AHeap → Prop) (x : AVal) (H₂ : AHeap) : Prop
  | mk (ys : List AVal) (h : H₂ p = some (.list ys)) (hz : ys.length ≤ 100000) (q : Q .none (upd H₂ p (some (.list (ys ++ [x]))))) : AppQ2 p Q x H₂
inductive AppQ (B : Base) (d : Nat) (sc : Scope) (ρ : Loc) (arg : Expr) (Q : AVal → AHeap → Prop) (a : AVal) (H₁ : AHeap) : Prop
  | mk (p : Addr) (xs : List AVal) (e : a = .ref p) (h : H₁ p = some (.list xs)) (w : W B d sc ρ arg (AppQ2 p Q) H₁) : AppQ B d sc ρ arg Q a H₁
inductive ExtQ2 (p : Addr) (Q : AVal → AHeap → Prop) (x : AVal) (H₂ : AHeap) : Prop
  | mk (ys zs : List AVal) (h : H₂ p = some (.list ys)) (i : IsSeq H₂ x zs) (hz : ys.length + zs.length ≤ 100000) (q : Q .none (upd H₂ p (some (.list (ys ++ zs))))) : ExtQ2 p Q x H₂
inductive ExtQ (B : Base) (d : Nat) (sc : Scope) (ρ : Loc) (arg : Expr) (Q : AVal → AHeap → Prop) (a : AVal) (H₁ : AHeap) : Prop
  | mk (p : Addr) (xs : List AVal) (e : a = .ref p) (h : H₁ p = some (.list xs)) (w : W B d sc ρ arg (ExtQ2 p Q) H₁) : ExtQ B d sc ρ arg Q a H₁
inductive PopQ (Q : AVal → AHeap → Prop) (a : AVal) (H₁ : AHeap) : Prop
  | mk (p : Addr) (xs : List AVal) (x : AVal) (e : a = .ref p) (h : H₁ p = some (.list (xs ++ [x]))) (hz : xs.length ≤ 100000) (q : Q x (upd H₁ p (some (.list xs)))) : PopQ Q a H₁
inductive GetQ3 (a : AVal) (k : Int) (Q : AVal → AHeap → Prop) (y : AVal) (H₃ : AHeap) : Prop
  | mk (kvs : List (Int × AVal)) (i : IsDict H₃ a kvs) (q : Q ((dget kvs k).getD y) H₃) : GetQ3 a k Q y H₃
inductive GetQ2 (B : Base) (d : Nat) (sc : Scope) (ρ : Loc) (a2 : Expr) (a : AVal) (Q : AVal → AHeap → Prop) (x : AVal) (H₂ : AHeap) : Prop
  | mk (k : Int) (e : x = .int k) (w : W B d sc ρ a2 (GetQ3 a k Q) H₂) : GetQ2 B d sc ρ a2 a Q x H₂
inductive GetQ (B : Base) (d : Nat) (sc : Scope) (ρ : Loc) (a1 a2 : Expr) (Q : AVal → AHeap → Prop) (a : AVal) (H₁ : AHeap) : Prop
  | mk (kvs : List (Int × AVal)) (i : IsDict H₁ a kvs) (w : W B d sc ρ a1 (GetQ2 B d sc ρ a2 a Q) H₁) : GetQ B d sc ρ a1 a2 Q a H₁
theorem W_append {o arg : Expr} {apos pos : Pos} {Q : AVal → AHeap → Prop} (h : W B d sc ρ o (AppQ B d sc ρ arg Q) H)
    (hbase : ∀ env, attributeBase o "append" env (eval o env) = eval o env := by intro _; with_unfolding_all rfl) (hline : (apos.endLine == pos.line) = true := by decide)
    (hp : ∀ env pos, (backTo pos (starEach [arg] env)).any (·.1) = false := by intro _ _; with_unfolding_all rfl) (he : ∀ env, starEach [arg] env = (false, eval arg env) :: starEach [] env := by intro _; with_unfolding_all rfl) :
    W B d sc ρ (.Call (.Attribute o "append" apos) [arg] [] pos) Q H :=
  W_bmeth PySem.F.slot_list_append PySem.F.plainAttrs_list PySem.F.type_list_append (tyOf (T := "list")) (W_mono h fun a H₁ ⟨p, xs, e, hp, hw⟩ => ⟨.inl ⟨rfl, xs, .inr ⟨p, e, hp⟩⟩, WL_cons (W_mono hw fun x H₂ ⟨ys, h2, hz, q⟩ => WL_nil (by subst e; exact VL_append h2 q hz)) he⟩) hbase hline (by simp) hp
theorem W_extend {o arg : Expr} {apos pos : Pos} {Q : AVal → AHeap → Prop} (h : W B d sc ρ o (ExtQ B d sc ρ arg Q) H)
    (hbase : ∀ env, attributeBase o "extend" env (eval o env) = eval o env := by intro _; with_unfolding_all rfl) (hline : (apos.endLine == pos.line) = true := by decide)
    (hp : ∀ env pos, (backTo pos (starEach [arg] env)).any (·.1) = false := by intro _ _; with_unfolding_all rfl) (he : ∀ env, starEach [arg] env = (false, eval arg env) :: starEach [] env := by intro _; with_unfolding_all rfl) :
    W B d sc ρ (.Call (.Attribute o "extend" apos) [arg] [] pos) Q H :=
  W_bmeth PySem.F.slot_list_extend PySem.F.plainAttrs_list PySem.F.type_list_extend (tyOf (T := "list")) (W_mono h fun a H₁ ⟨p, xs, e, hp, hw⟩ => ⟨.inl ⟨rfl, xs, .inr ⟨p, e, hp⟩⟩, WL_cons (W_mono hw fun x H₂ ⟨ys, zs, h2, h3, hz, q⟩ => WL_nil (by subst e; exact VL_extend h2 h3 q hz)) he⟩) hbase hline (by simp) hp
theorem W_pop {o : Expr} {apos pos : Pos} {Q : AVal → AHeap → Prop} (h : W B d sc ρ o (PopQ Q) H)
    (hbase : ∀ env, attributeBase o "pop" env (eval o env) = eval o env := by intro _; with_unfolding_all rfl) (hline : (apos.endLine == pos.line) = true := by decide) :
    W B d sc ρ (.Call (.Attribute o "pop" apos) [] [] pos) Q H :=
  W_bmeth PySem.F.slot_list_pop PySem.F.plainAttrs_list PySem.F.type_list_pop (tyOf (T := "list")) (W_mono h fun a H₁ ⟨p, xs, x, e, hp, hz, q⟩ => ⟨.inl ⟨rfl, _, .inr ⟨p, e, hp⟩⟩, WL_nil (by subst e; exact VL_pop hp q hz)⟩) hbase hline (by simp) (fun _ _ => rfl)
theorem W_get {o a1 a2 : Expr} {apos pos : Pos} {Q : AVal → AHeap → Prop} (h : W B d sc ρ o (GetQ B d sc ρ a1 a2 Q) H)
    (hbase : ∀ env, attributeBase o "get" env (eval o env) = eval o env := by intro _; with_unfolding_all rfl) (hline : (apos.endLine == pos.line) = true := by decide)
    (hp : ∀ env pos, (backTo pos (starEach [a1, a2] env)).any (·.1) = false := by intro _ _; with_unfolding_all rfl) (he : ∀ env, starEach [a1, a2] env = (false, eval a1 env) :: starEach [a2] env := by intro _; with_unfolding_all rfl) (he2 : ∀ env, starEach [a2] env = (false, eval a2 env) :: starEach [] env := by intro _; with_unfolding_all rfl) :
    W B d sc ρ (.Call (.Attribute o "get" apos) [a1, a2] [] pos) Q H :=
  W_bmeth PySem.F.slot_dict_get PySem.F.plainAttrs_dict PySem.F.type_dict_get (tyOf (T := "dict")) (W_mono h fun a H₁ ⟨kvs, i, hw⟩ => ⟨.inr ⟨rfl, kvs, i⟩, WL_cons (W_mono hw fun x H₂ ⟨k, e, hw⟩ => WL_cons (W_mono hw fun y H₃ ⟨kvs, i, q⟩ => WL_nil (by subst e; exact VL_get2 i q)) he2) he⟩) hbase hline (by simp) hp
theorem W_setdefault {o a1 a2 : Expr} {apos pos : Pos} {Q : AVal → AHeap → Prop} (h : W B d sc ρ o (fun a H₁ => ∃ p kvs, a = .ref p ∧ H₁ p = some (.dict kvs) ∧ W B d sc ρ a1 (fun x H₂ => ∃ k, x = .int k ∧ W B d sc ρ a2 (fun y H₃ => ∃ kvs, H₃ p = some (.dict kvs) ∧ kvs.length ≤ 100000 ∧ match dget kvs k with | some z => Q z H₃ | none => Q y (upd H₃ p (some (.dict (dset kvs k y))))) H₂) H₁) H)
    (hbase : ∀ env, attributeBase o "setdefault" env (eval o env) = eval o env := by intro _; with_unfolding_all rfl) (hline : (apos.endLine == pos.line) = true := by decide)
    (hp : ∀ env pos, (backTo pos (starEach [a1, a2] env)).any (·.1) = false := by intro _ _; with_unfolding_all rfl) (he : ∀ env, starEach [a1, a2] env = (false, eval a1 env) :: starEach [a2] env := by intro _; with_unfolding_all rfl) (he2 : ∀ env, starEach [a2] env = (false, eval a2 env) :: starEach [] env := by intro _; with_unfolding_all rfl) :
    W B d sc ρ (.Call (.Attribute o "setdefault" apos) [a1, a2] [] pos) Q H :=
  W_bmeth PySem.F.slot_dict_setdefault PySem.F.plainAttrs_dict PySem.F.type_dict_setdefault (tyOf (T := "dict")) (W_mono h fun a H₁ ⟨p, kvs, e, hp, hw⟩ => ⟨.inr ⟨rfl, kvs, .inr ⟨p, e, hp⟩⟩, WL_cons (W_mono hw fun x H₂ ⟨k, e2, hw⟩ => WL_cons (W_mono hw fun y H₃ ⟨kvs, h3, hz, q⟩ => WL_nil (by subst e e2; exact VL_setdefault h3 hz q)) he2) he⟩) hbase hline (by simp) hp

theorem WB_mono {e : Expr} {Q Q' : Bool → AHeap → Prop} (h : WB B d sc ρ e Q H) (k : ∀ x H', Q x H' → Q' x H') : WB B d sc ρ e Q' H := fun A env X s R E S L =>
  monoOk (h A env X s R E S L) fun f s' ⟨H', S', t, q⟩ => ⟨H', S', t, k _ _ q⟩
theorem W1_appendIf {t arg : Expr} {f : Str} {fp apos cpos epos pos : Pos} {a : Addr} {Q : Fl → Loc → AHeap → Prop} (hf : lget ρ f = some (.ref a))
    (h : WB B d sc ρ t (fun c H₁ => ∃ xs y H₂, H₁ a = some (.list xs) ∧ xs.length ≤ 100000 ∧ (c = true → W B d sc ρ arg (fun x H₂ => x = y ∧ H₂ = H₁) H₁) ∧ upd H₁ a (some (.list (xs ++ if c = true then [y] else []))) = H₂ ∧ Q .next ρ H₂) H)
    (hd : (f == ("__debug__" : Str)) = false) (hc : (f == ("__classdict__" : Str)) = false) (hline : (apos.endLine == cpos.line) = true)
    (hp : ∀ env pos, (backTo pos (starEach [arg] env)).any (·.1) = false) (he : ∀ env, starEach [arg] env = (false, eval arg env) :: starEach [] env) :
    W1 B d sc ρ (.If t [.Expr (.Call (.Attribute (.Name f fp) "append" apos) [arg] [] cpos) epos] [] pos) Q H := by
  refine W1_if (WB_mono h fun c H₁ ⟨xs, y, H₂, e, hz, hw, e2, q⟩ => ?_)
  subst e2
  refine ⟨fun hc' => ?_, fun hc' => ?_⟩
  · rw [if_pos hc'] at q
    refine WS_cons (W1_expr (W_append (W_var hf ⟨a, xs, rfl, e, W_mono (hw hc') fun x H₂ ⟨e1, e2⟩ => ⟨xs, ?_, hz, rfl, WS_nil ?_⟩⟩ hd hc) (by intro _; rfl) hline hp he) (by intro _; rfl))
    · rw [e2]; exact e
    · subst e1 e2; exact q
  · rw [if_neg (by rw [hc']; decide), List.append_nil, upd_id _ _ _ e] at q
    exact WS_nil q

/-! ### loops whose names stay -/

noncomputable def FQ (ρ : Loc) (J : AHeap → Prop) (Q : Fl → Loc → AHeap → Prop) : Fl → Loc → AHeap → Prop
  | .next, ρ₂, H => Sub ρ ρ₂ ∧ J H
  | .ret v, ρ₂, H => Q (.ret v) ρ₂ H
theorem FQ_next {J : AHeap → Prop} {Q : Fl → Loc → AHeap → Prop} {ρ₀ : Loc} (s : Sub ρ₀ ρ) (j : J H) : FQ ρ₀ J Q .next ρ H := ⟨s, j⟩
theorem FQ_ret {J : AHeap → Prop} {Q : Fl → Loc → AHeap → Prop} {ρ₀ : Loc} {v : AVal} (q : Q (.ret v) ρ H) : FQ ρ₀ J Q (.ret v) ρ H := q
inductive ForFQ (B : Base) (d : Nat) (sc : Scope) (ρ : Loc) (J : Nat → AHeap → Prop) (ρ' : AVal → Loc) (body : List Stmt) (Q : Fl → Loc → AHeap → Prop) (a : AVal) (H₁ : AHeap) : Prop
  | mk (xs : List AVal) (it : Iter a xs) (j0 : J 0 H₁) (step : ∀ i y H₂, xs[i]? = some y → J i H₂ → WS B d sc (ρ' y) body (FQ ρ (J (i + 1)) Q) H₂) (fin : ∀ H₂, J xs.length H₂ → Q .next ρ H₂) : ForFQ B d sc ρ J ρ' body Q a H₁
theorem W1_forF {x : Str} {px pos : Pos} {iter : Expr} {body : List Stmt} {Q : Fl → Loc → AHeap → Prop} (J : Nat → AHeap → Prop) (ρ' : AVal → Loc) (hx : isVar sc x = true) (e : ∀ y, lset ρ x y = ρ' y)
    (hse : ∀ env y, foldedSetIterable iter env y = pure y)
    (h : W B d sc ρ iter (ForFQ B d sc ρ J ρ' body Q) H) :
    W1 B d sc ρ (.For (.Name x px) iter body [] pos) Q H :=
  W1_for (fun i ρ₁ H₁ => ρ₁ = ρ ∧ J i H₁) hx hse (W_mono h fun a H₁ ⟨xs, it, j0, step, fin⟩ => ⟨xs, ρ, it, .refl _, ⟨rfl, j0⟩, fun i y ρ₁ H₂ hy ⟨e1, j⟩ => by
    subst e1
    rw [e]
    refine WS_mono (step i y H₂ hy j) fun fl ρ₂ H₃ q => ?_
    cases fl with
    | next => exact ⟨_, q.1, rfl, q.2⟩
    | ret v => exact q, fun ρ₁ H₂ ⟨e1, j⟩ => by subst e1; exact fin H₂ j⟩)

theorem WE_mono {elt : Expr} {gens : List Comprehension} {k : Nat} {out : List AVal} {P P' : Loc → List AVal → AHeap → Prop} (h : WE B d sc elt gens k ρ out P H) (m : ∀ ρ o H, P ρ o H → P' ρ o H) : WE B d sc elt gens k ρ out P' H := fun A env X s D scope pos Qa R E S L hXD hD acc q =>
  h A env X s D scope pos Qa R E S L hXD hD acc fun s' ρ' out' H' t => q s' ρ' out' H' ⟨t.same, t.rel, t.loc, t.acc, t.kept, m _ _ _ t.post⟩

/-- what a comprehension of one clause needs; `t`: its test -/
inductive Comp1 (B : Base) (d : Nat) (sc : Scope) (ρ : Loc) (scope : Scope) (elt : Expr) (x : Str) (ρ' : AVal → Loc) (QQ : List AVal → AHeap → Prop) (a : AVal) (H₁ : AHeap) : Prop
  | mk (xs : List AVal) (ρc : Loc) (J : Nat → List AVal → AHeap → Prop) (it : Iter a xs) (sb : Sub ρc ρ) (fr : ∀ p ∈ ρc, scope.names.lookup p.1 = some .free) (e : ∀ y, lset ρc x y = ρ' y) (s2 : ∀ y, Sub ρc (ρ' y)) (j0 : J 0 [] H₁)
    (step : ∀ i y out H₂, xs[i]? = some y → J i out H₂ → W B d (relabelS scope sc) (ρ' y) elt (fun z H₃ => out.length ≤ 100000 ∧ J (i + 1) (out ++ [z]) H₃) H₂) (fin : ∀ out H₂, J xs.length out H₂ → QQ out H₂) : Comp1 B d sc ρ scope elt x ρ' QQ a H₁
inductive Comp1If (B : Base) (d : Nat) (sc : Scope) (ρ : Loc) (scope : Scope) (elt c : Expr) (x : Str) (ρ' : AVal → Loc) (QQ : List AVal → AHeap → Prop) (a : AVal) (H₁ : AHeap) : Prop
  | mk (xs : List AVal) (ρc : Loc) (J : Nat → List AVal → AHeap → Prop) (it : Iter a xs) (sb : Sub ρc ρ) (fr : ∀ p ∈ ρc, scope.names.lookup p.1 = some .free) (e : ∀ y, lset ρc x y = ρ' y) (s2 : ∀ y, Sub ρc (ρ' y)) (j0 : J 0 [] H₁)
    (step : ∀ i y out H₂, xs[i]? = some y → J i out H₂ → WB B d (relabelS scope sc) (ρ' y) c (fun b H₃ => (b = true → W B d (relabelS scope sc) (ρ' y) elt (fun z H₄ => out.length ≤ 100000 ∧ J (i + 1) (out ++ [z]) H₄) H₃) ∧ (b = false → J (i + 1) out H₃)) H₂) (fin : ∀ out H₂, J xs.length out H₂ → QQ out H₂) : Comp1If B d sc ρ scope elt c x ρ' QQ a H₁

theorem mem_of_lget {x : Str} {a : AVal} : ∀ {ρ : Loc}, lget ρ x = some a → (x, a) ∈ ρ
  | (y, u) :: r, h => by
    by_cases q : x = y
    · simp [lget, q] at h; subst h; rw [q]; exact .head _
    · simp [lget, q] at h; exact .tail _ (mem_of_lget h)

theorem Comp1.src {elt iter : Expr} {x : Str} {px : Pos} {ρ' : AVal → Loc} {QQ : List AVal → AHeap → Prop} {a : AVal} {H₁ : AHeap} {scope : Scope} (h : Comp1 B d sc ρ scope elt x ρ' QQ a H₁) : CompSrcOK B d sc ρ scope elt x px iter [] [] QQ a H₁ := by
  obtain ⟨xs, ρc, J, it, hs, hf, e, hs2, j0, step, fin⟩ := h
  refine ⟨xs, ρc, fun i ρ₁ out H => ρ₁ = ρc ∧ J i out H, it, hs, fun y a e => hf _ (mem_of_lget e), ⟨rfl, j0⟩, fun i y ρ₁ out H₂ hy ⟨e1, j⟩ => ?_, fun ρ₁ out H₂ ⟨_, j⟩ => fin out H₂ j⟩
  subst e1
  rw [e]
  refine WT_nil ⟨fun _ => WE_last rfl (W_mono (step i y out H₂ hy j) fun z H₃ ⟨q1, q2⟩ => ⟨q1, _, hs2 y, rfl, q2⟩), fun q => by cases q⟩
theorem Comp1If.src {elt iter c : Expr} {x : Str} {px : Pos} {ρ' : AVal → Loc} {QQ : List AVal → AHeap → Prop} {a : AVal} {H₁ : AHeap} {scope : Scope} (h : Comp1If B d sc ρ scope elt c x ρ' QQ a H₁) : CompSrcOK B d sc ρ scope elt x px iter [c] [] QQ a H₁ := by
  obtain ⟨xs, ρc, J, it, hs, hf, e, hs2, j0, step, fin⟩ := h
  refine ⟨xs, ρc, fun i ρ₁ out H => ρ₁ = ρc ∧ J i out H, it, hs, fun y a e => hf _ (mem_of_lget e), ⟨rfl, j0⟩, fun i y ρ₁ out H₂ hy ⟨e1, j⟩ => ?_, fun ρ₁ out H₂ ⟨_, j⟩ => fin out H₂ j⟩
  subst e1
  rw [e]
  refine WT_one (WB_mono (step i y out H₂ hy j) fun b H₃ ⟨q1, q2⟩ => ⟨fun hb => WE_last rfl (W_mono (q1 hb) fun z H₃ ⟨q1, q2⟩ => ⟨q1, _, hs2 y, rfl, q2⟩), fun hb => ⟨_, hs2 y, rfl, q2 hb⟩⟩)

theorem W_comp1 {elt iter : Expr} {pos : Pos} {x : Str} {px : Pos} {scope : Scope} {Q : AVal → AHeap → Prop} (ρ' : AVal → Loc) (hc : compOK scope sc = true) (hx : scope.names.lookup x = some .local) (hse : ∀ env y, foldedSetIterable iter env y = pure y)
    (h : W B d sc ρ iter (Comp1 B d sc ρ scope elt x ρ' fun out H₂ => Q (.lst out) H₂) H) : W B d sc ρ (.ListComp elt [⟨.Name x px, iter, [], 0⟩] scope pos) Q H :=
  W_comp hc hx hse (W_mono h fun a H₁ q => q.src)
theorem W_comp1If {elt iter c : Expr} {pos : Pos} {x : Str} {px : Pos} {scope : Scope} {Q : AVal → AHeap → Prop} (ρ' : AVal → Loc) (hc : compOK scope sc = true) (hx : scope.names.lookup x = some .local) (hse : ∀ env y, foldedSetIterable iter env y = pure y)
    (h : W B d sc ρ iter (Comp1If B d sc ρ scope elt c x ρ' fun out H₂ => Q (.lst out) H₂) H) : W B d sc ρ (.ListComp elt [⟨.Name x px, iter, [c], 0⟩] scope pos) Q H :=
  W_comp hc hx hse (W_mono h fun a H₁ q => q.src)
theorem W1_comp1 {elt iter : Expr} {pos spos : Pos} {x y : Str} {px py : Pos} {scope : Scope} {Q : Fl → Loc → AHeap → Prop} (ρ' ρ₂ : AVal → Loc) (e2 : ∀ v, lset ρ y v = ρ₂ v) (hsw : swapB sc scope y py.line pos.line = true) (hc : compOK scope sc = true) (hx : scope.names.lookup x = some .local) (hse : ∀ env y, foldedSetIterable iter env y = pure y)
    (h : W B d sc ρ iter (Comp1 B d sc ρ scope elt x ρ' fun out H₂ => Q .next (ρ₂ (.lst out)) H₂) H) : W1 B d sc ρ (.Assign [.Name y py] (.ListComp elt [⟨.Name x px, iter, [], 0⟩] scope pos) spos) Q H :=
  W1_comp hsw hc hx hse (W_mono h fun a H₁ q => by simp only [e2]; exact q.src)
theorem W1_comp1If {elt iter c : Expr} {pos spos : Pos} {x y : Str} {px py : Pos} {scope : Scope} {Q : Fl → Loc → AHeap → Prop} (ρ' ρ₂ : AVal → Loc) (e2 : ∀ v, lset ρ y v = ρ₂ v) (hsw : swapB sc scope y py.line pos.line = true) (hc : compOK scope sc = true) (hx : scope.names.lookup x = some .local) (hse : ∀ env y, foldedSetIterable iter env y = pure y)
    (h : W B d sc ρ iter (Comp1If B d sc ρ scope elt c x ρ' fun out H₂ => Q .next (ρ₂ (.lst out)) H₂) H) : W1 B d sc ρ (.Assign [.Name y py] (.ListComp elt [⟨.Name x px, iter, [c], 0⟩] scope pos) spos) Q H :=
  W1_comp hsw hc hx hse (W_mono h fun a H₁ q => by simp only [e2]; exact q.src)
theorem upd_new_back {a dx : Addr} {i j : Option AObj} (h1 : H a = none) (h2 : H dx = none) : upd (upd (upd (upd H dx i) a j) a none) dx none = H := by
  funext b
  by_cases hb : b = dx
  · subst hb; rw [upd_self, h2]
  · rw [upd_ne _ _ hb]
    by_cases hb' : b = a
    · subst hb'; rw [upd_self, h1]
    · rw [upd_ne _ _ hb', upd_ne _ _ hb', upd_ne _ _ hb]
theorem WS_freezeNew {ss : List Stmt} {x : Str} {a dx C : Addr} {fs : List (Str × AVal)} {o : Option AObj} {Q : Fl → Loc → AHeap → Prop} (ne : a ≠ dx) (h1 : H a = none) (h2 : H dx = none) (hx : lget ρ x = some (.ref a)) (e : lset ρ x (.obj C fs) = ρ') (h : WS B d sc ρ' ss Q H) :
    WS B d sc ρ ss Q (upd (upd H dx o) a (some (.inst C dx fs))) :=
  WS_freeze hx (.inst (upd_self ..)) (by rw [e, upd_new_back h1 h2]; exact h)
theorem WS_freezeD {ss : List Stmt} {x : Str} {a : Addr} {kvs : List (Int × AVal)} {Q : Fl → Loc → AHeap → Prop} (h1 : H a = none) (hx : lget ρ x = some (.ref a)) (e : lset ρ x (.dct kvs) = ρ') (h : WS B d sc ρ' ss Q H) :
    WS B d sc ρ ss Q (upd H a (some (.dict kvs))) :=
  WS_freeze hx (.dict (upd_self ..)) (by rw [e, upd_upd, upd_id _ _ _ h1]; exact h)
theorem WS_freezeL {ss : List Stmt} {x : Str} {a : Addr} {kvs : List AVal} {Q : Fl → Loc → AHeap → Prop} (h1 : H a = none) (hx : lget ρ x = some (.ref a)) (e : lset ρ x (.lst kvs) = ρ') (h : WS B d sc ρ' ss Q H) :
    WS B d sc ρ ss Q (upd H a (some (.list kvs))) :=
  WS_freeze hx (.list (upd_self ..)) (by rw [e, upd_upd, upd_id _ _ _ h1]; exact h)
theorem Comp1.same {elt : Expr} {x : Str} {ρ' : AVal → Loc} {QQ : List AVal → AHeap → Prop} {a : AVal} {H₁ : AHeap} {scope : Scope} (xs zs : List AVal) (ρc : Loc) (it : Iter a xs) (hl : zs.length = xs.length) (hz : zs.length ≤ 100000) (hs : Sub ρc ρ)
    (hf : ∀ p ∈ ρc, scope.names.lookup p.1 = some .free) (e : ∀ y, lset ρc x y = ρ' y) (hs2 : ∀ y, Sub ρc (ρ' y))
    (step : ∀ (i : Nat) (y z : AVal), xs[i]? = some y → zs[i]? = some z → W B d (relabelS scope sc) (ρ' y) elt (fun z' H₃ => z' = z ∧ H₃ = H₁) H₁) (q : QQ zs H₁) : Comp1 B d sc ρ scope elt x ρ' QQ a H₁ := by
  refine ⟨xs, ρc, fun i out H₂ => out = zs.take i ∧ H₂ = H₁, it, hs, hf, e, hs2, ⟨rfl, rfl⟩, fun i y out H₂ hy ⟨e1, e2⟩ => ?_, fun out H₂ ⟨e1, e2⟩ => ?_⟩
  · subst e1 e2
    have hi : i < zs.length := by rw [hl]; exact (List.getElem?_eq_some_iff.mp hy).1
    refine W_mono (step i y zs[i] hy (by simp [hi])) fun z' H₃ ⟨e1, e2⟩ => ⟨by simp; lia, ?_, e2⟩
    rw [List.take_add_one, List.getElem?_eq_getElem hi, e1]; rfl
  · subst e1 e2; rw [← hl, List.take_length]; exact q
theorem Comp1If.ints {elt c : Expr} {x : Str} {ρ' : AVal → Loc} {QQ : List AVal → AHeap → Prop} {a : AVal} {H₁ : AHeap} {scope : Scope} (ns : List Int) (ρc : Loc) (it : Iter a (intsL ns)) (hz : ns.length ≤ 100000) (hs : Sub ρc ρ)
    (hf : ∀ p ∈ ρc, scope.names.lookup p.1 = some .free) (e : ∀ y, lset ρc x y = ρ' y) (hs2 : ∀ y, Sub ρc (ρ' y))
    (test : ∀ n : Int, WB B d (relabelS scope sc) (ρ' (.int n)) c (fun b H₃ => b = decide (n ≥ 0) ∧ H₃ = H₁) H₁) (el : ∀ n : Int, W B d (relabelS scope sc) (ρ' (.int n)) elt (fun z H₃ => z = .int n ∧ H₃ = H₁) H₁)
    (q : QQ (intsL (ns.filter fun n => decide (n ≥ 0))) H₁) : Comp1If B d sc ρ scope elt c x ρ' QQ a H₁ := by
  refine ⟨intsL ns, ρc, fun i out H₂ => out = intsL ((ns.take i).filter fun n => decide (n ≥ 0)) ∧ H₂ = H₁, it, hs, hf, e, hs2, ⟨by simp, rfl⟩, fun i y out H₂ hy ⟨e1, e2⟩ => ?_, fun out H₂ ⟨e1, e2⟩ => ?_⟩
  · subst e1 e2
    unfold intsL at hy
    rw [List.getElem?_map] at hy
    cases hn : ns[i]? with
    | none => rw [hn] at hy; cases hy
    | some n =>
      rw [hn] at hy; cases hy
      have ht : ns.take (i + 1) = ns.take i ++ [n] := by rw [List.take_add_one, hn]; rfl
      refine WB_mono (test n) fun b H₃ ⟨e1, e2⟩ => ⟨fun hb => ?_, fun hb => ?_⟩
      · subst e2
        refine W_mono (el n) fun z H₄ ⟨e3, e4⟩ => ⟨?_, ?_, e4⟩
        · have h1 := List.length_filter_le (fun n : Int => decide (n ≥ 0)) (ns.take i)
          have h2 : (ns.take i).length ≤ ns.length := by simp; lia
          simp only [intsL, List.length_map]; lia
        · rw [ht, List.filter_append, e3]
          simp only [List.filter_cons, ← e1, hb, if_true, List.filter_nil, intsL, List.map_append]; rfl
      · refine ⟨?_, e2⟩
        rw [ht, List.filter_append]
        simp only [List.filter_cons, ← e1, hb, List.filter_nil]; simp
  · subst e1 e2
    rw [show (intsL ns).length = ns.length by simp [intsL], List.take_length]; exact q

theorem Cont_ret {rest : List Stmt} {Q : Fl → Loc → AHeap → Prop} {x : AVal} (q : Q (.ret x) ρ H) : Cont B d sc rest Q (.ret x) ρ H := q
theorem RetQ_ret {Q : AVal → AHeap → Prop} {x : AVal} (q : Q x H) : RetQ Q (.ret x) ρ H := q
theorem RetQ_next {Q : AVal → AHeap → Prop} (q : Q .none H) : RetQ Q .next ρ H := q

noncomputable def txIdx : List (Str × Str) := [("FUN", "fun"), ("CONT", "cont"), ("CALL", "call"), ("JUMP", "jump"), ("GIVE", "give"), ("BRANCH", "if")]
noncomputable def txOf (x : Str) : Str := (txIdx.lookup x).getD ""
structure TxAt (B : Base) (x v : Str) (t : Tok) : Prop where
  is : B.mg x = some (.str v t)
theorem Facts.tx' (T : Facts B) (x v : Str) (h : (x, v) ∈ txIdx) : ∃ t, B.mg x = some (.str v t) := T.text _ h
theorem W_text (T : Facts B) {x : Str} {pos : Pos} (v : Str) {Q : AVal → AHeap → Prop} (h : (x, v) ∈ txIdx) (hk : sc.names.lookup x = some .globalImplicit) (q : Q (.str v) H) (hd : (x == ("__debug__" : Str)) = false := by decide +kernel) : W B d sc ρ (.Name x pos) Q H := by
  obtain ⟨t, e⟩ := T.tx' x v h
  exact W_gstr e hk q hd

theorem W_tx1 (T : Facts B) {pos : Pos} {Q : AVal → AHeap → Prop} (hk : sc.names.lookup ("FUN" : Str) = some .globalImplicit) (q : Q (.str "fun") H) : W B d sc ρ (.Name "FUN" pos) Q H := W_text T "fun" (by decide +kernel) hk q (by decide +kernel)
theorem W_tx2 (T : Facts B) {pos : Pos} {Q : AVal → AHeap → Prop} (hk : sc.names.lookup ("CONT" : Str) = some .globalImplicit) (q : Q (.str "cont") H) : W B d sc ρ (.Name "CONT" pos) Q H := W_text T "cont" (by decide +kernel) hk q (by decide +kernel)
theorem W_tx3 (T : Facts B) {pos : Pos} {Q : AVal → AHeap → Prop} (hk : sc.names.lookup ("CALL" : Str) = some .globalImplicit) (q : Q (.str "call") H) : W B d sc ρ (.Name "CALL" pos) Q H := W_text T "call" (by decide +kernel) hk q (by decide +kernel)
theorem W_tx4 (T : Facts B) {pos : Pos} {Q : AVal → AHeap → Prop} (hk : sc.names.lookup ("JUMP" : Str) = some .globalImplicit) (q : Q (.str "jump") H) : W B d sc ρ (.Name "JUMP" pos) Q H := W_text T "jump" (by decide +kernel) hk q (by decide +kernel)
theorem W_tx5 (T : Facts B) {pos : Pos} {Q : AVal → AHeap → Prop} (hk : sc.names.lookup ("GIVE" : Str) = some .globalImplicit) (q : Q (.str "give") H) : W B d sc ρ (.Name "GIVE" pos) Q H := W_text T "give" (by decide +kernel) hk q (by decide +kernel)
theorem W_tx6 (T : Facts B) {pos : Pos} {Q : AVal → AHeap → Prop} (hk : sc.names.lookup ("BRANCH" : Str) = some .globalImplicit) (q : Q (.str "if") H) : W B d sc ρ (.Name "BRANCH" pos) Q H := W_text T "if" (by decide +kernel) hk q (by decide +kernel)
theorem Cont_cons {st : Stmt} {rest : List Stmt} {Q : Fl → Loc → AHeap → Prop} (h : W1 B d sc ρ st (Cont B d sc rest Q) H) : Cont B d sc (st :: rest) Q .next ρ H := WS_cons h
theorem Cont_nil {Q : Fl → Loc → AHeap → Prop} (q : Q .next ρ H) : Cont B d sc [] Q .next ρ H := WS_nil q
noncomputable def okName (x : Str) : Bool := !(x == ("__debug__" : Str)) && !(x == ("__classdict__" : Str))
theorem W_v {x : Str} {pos : Pos} {v : AVal} {Q : AVal → AHeap → Prop} (hx : lget ρ x = some v) (ok : okName x = true) (q : Q v H) : W B d sc ρ (.Name x pos) Q H := by
  unfold okName at ok
  simp only [Bool.and_eq_true, Bool.not_eq_true'] at ok
  exact W_var hx q ok.1 ok.2
theorem BoolQ.of {Q : Bool → AHeap → Prop} {b : Bool} (q : Q b H) : BoolQ Q (.bool b) H := ⟨b, rfl, q⟩
noncomputable def fieldIdx : List (Nat × Str) := [(8, "result"), (8, "word"), (8, "number"), (8, "args"), (8, "datum"), (8, "results"), (8, "labels"), (12, "word"), (12, "fun"), (12, "args"), (12, "to"), (12, "other"), (12, "var"),
    (17, "label"), (17, "sort"), (17, "params"), (17, "rest"), (17, "var"), (17, "home"), (17, "parent"), (17, "title"), (17, "ops"), (17, "last"), (18, "table"), (18, "entry"), (28, "there")]
theorem Facts.fd (T : Facts B) (i : Nat) (x : Str) (h : (i, x) ∈ fieldIdx) : FieldOf B (T.fn i) x := T.field (i, x) h

theorem CallG.freeze {x : Str} {xs : List AVal} {Q : AVal → AHeap → Prop} (h : CallG B d x xs (FrozeQ Q) H) : CallG B d x xs Q H := let ⟨f, a, b, c⟩ := h; ⟨f, a, b, VL_freeze c⟩
theorem CallM.freeze {C : Addr} {x : Str} {xs : List AVal} {Q : AVal → AHeap → Prop} (h : CallM B d C x xs (FrozeQ Q) H) : CallM B d C x xs Q H := let ⟨f, a, c⟩ := h; ⟨f, a, VL_freeze c⟩
theorem CallM.mono {C : Addr} {x : Str} {xs : List AVal} {Q Q' : AVal → AHeap → Prop} (h : CallM B d C x xs Q H) (k : ∀ v H', Q v H' → Q' v H') : CallM B d C x xs Q' H := let ⟨f, a, c⟩ := h; ⟨f, a, VL_mono c k⟩

theorem U2_setTop {a : Addr} {C dx : Addr} {fs fs' : List (Str × AVal)} {name : Str} {x : AVal} {Q : AHeap → Prop} (F : FieldOf B C name) (hz : fs.length ≤ 50) (e' : lset fs name x = fs') (q : Q (upd H a (some (.inst C dx fs')))) :
    U2 B d (fun o v => setAttr o name v) (.ref a) x Q (upd H a (some (.inst C dx fs))) := U2_setattr' F (upd_self ..) hz e' (by rw [upd_upd]; exact q)

theorem froze_inst {a dx C : Addr} {fs : List (Str × AVal)} (ne : a ≠ dx) (h1 : H a = none) (h2 : H dx = none) {o : Option AObj} {Q : AVal → AHeap → Prop} (q : Q (.obj C fs) H) :
    FrozeQ Q (.ref a) (upd (upd H dx o) a (some (.inst C dx fs))) := by
  refine ⟨_, _, .inst (upd_self ..), ?_⟩
  have : upd (upd (upd (upd H dx o) a (some (.inst C dx fs))) a none) dx none = H := by
    funext b
    by_cases hb : b = dx
    · subst hb; rw [upd_self, h2]
    · rw [upd_ne _ _ hb]
      by_cases hb' : b = a
      · subst hb'; rw [upd_self, h1]
      · rw [upd_ne _ _ hb', upd_ne _ _ hb', upd_ne _ _ hb]
  rw [this]; exact q
theorem upd_back {a : Addr} {o : Option AObj} (h : H a = none) : upd (upd H a o) a none = H := by rw [upd_upd]; exact upd_id _ _ _ h
theorem froze_list {a : Addr} {xs : List AVal} (h : H a = none) {Q : AVal → AHeap → Prop} (q : Q (.lst xs) H) : FrozeQ Q (.ref a) (upd H a (some (.list xs))) :=
  ⟨_, _, .list (upd_self ..), by rw [upd_back h]; exact q⟩
theorem froze_dict {a : Addr} {xs : List (Int × AVal)} (h : H a = none) {Q : AVal → AHeap → Prop} (q : Q (.dct xs) H) : FrozeQ Q (.ref a) (upd H a (some (.dict xs))) :=
  ⟨_, _, .dict (upd_self ..), by rw [upd_back h]; exact q⟩

/-- list(x), kept in the store -/
theorem VL_listS {a : AVal} {xs : List AVal} {Q : AVal → AHeap → Prop} (i : IsSeq H a xs) (hz : xs.length ≤ 100000) (q : ∀ p, H p = none → Q (.ref p) (upd H p (some (.list xs)))) : VL B d (fun vs => call (.type "list") vs) [a] Q H := fun A X s vs R S r => by
  obtain ⟨v, vs', rfl, r1, r2⟩ := r.inv_cons
  rw [r2.inv_nil]
  obtain ⟨x, us, n, rfl, hL, f⟩ := seq_of S r1 i
  refine call_list_seq x (.inl rfl) hL rfl rfl (fun h' c' hk ha => ?_) (by rw [List.size_toArray, f.1, sizeLine_eq]; lia)
  have kk : Kept H s.heap H h' := Kept.grown hk
  have fr := S.fresh
  have S1 : SRel B H (fun b => X b ∨ b = s.heap.objs.size) h' := by
    have S' : SRel B H X h' := S.grown hk
    refine ⟨fun b o e => ?_, fun b q => ?_, fun b ob e => ?_⟩
    · obtain ⟨e1, e2⟩ := S'.base b o e
      refine ⟨e1, fun q => ?_⟩
      rcases q with q | q | q
      · exact e2 (.inl q)
      · exact e2 (.inr q)
      · have := (S.base b o e).1
        exact absurd (Heap.lt_size this) (by rw [q]; exact Nat.lt_irrefl _)
    · rcases q with q | q
      · exact S'.hid b q
      · rw [q]; exact ⟨Held.none fr, _, ha⟩
    · refine (S.objs b ob e).moved (fun c o q i => ⟨hk _ _ q, fun z => ?_⟩) (fun o q => hk _ _ q) fun C dx fs _ q => ⟨q, fun o z => hk _ _ z⟩
      rcases z with z | z | z
      · exact i (.inl z)
      · exact i (.inr z)
      · exact absurd (Heap.lt_size q) (by rw [z]; exact Nat.lt_irrefl _)
  have f' : VRels B (Held H fun b => X b ∨ b = s.heap.objs.size) h' xs us := f.mono fun c o q i => ⟨hk _ _ q, fun z => by
    rcases z with z | z | z
    · exact i (.inl z)
    · exact i (.inr z)
    · exact absurd (Heap.lt_size q) (by rw [z]; exact Nat.lt_irrefl _)⟩
  have nx : ¬ X s.heap.objs.size := fun q => fr (.inr q)
  have S2 := S1.take (ob := .list xs) (.inr rfl) (X' := X) (fun b => ⟨fun q => ⟨.inl q, fun z => nx (z ▸ q)⟩, fun q => q.1.resolve_right q.2⟩) ⟨us, c', ha, f'⟩
  refine ⟨.ref _, _, .ref, S2, ⟨⟨_, _, rfl⟩, fun b o e i => ⟨hk _ _ e, ?_⟩⟩, q _ (Held.none fr)⟩
  rw [upd_ne _ _ (Nat.ne_of_lt (Heap.lt_size e))]; exact i
theorem W_listS (T : Facts B) {arg : Expr} {p pos : Pos} {Q : AVal → AHeap → Prop} (h : W B d sc ρ arg (fun a H₁ => ∃ xs, IsSeq H₁ a xs ∧ xs.length ≤ 100000 ∧ ∀ p, H₁ p = none → Q (.ref p) (upd H₁ p (some (.list xs)))) H) (hk : sc.names.lookup ("list" : Str) = some .globalImplicit)
    (hp : ∀ env pos, (backTo pos (starEach [arg] env)).any (·.1) = false := by intro _ _; with_unfolding_all rfl) (he : ∀ env, starEach [arg] env = (false, eval arg env) :: starEach [] env := by intro _; with_unfolding_all rfl) :
    W B d sc ρ (.Call (.Name "list" p) [arg] [] pos) Q H :=
  W_callb (v := .type "list") (T.free "list" (by decide +kernel)) (by decide +kernel) hk (fun _ q => by cases q) (WL_cons (W_mono h fun a H₁ ⟨xs, i, hn, q⟩ => WL_nil (VL_listS i hn q)) he) (hp := hp)

theorem IsInst.ext {C : Addr} {fs : List (Str × AVal)} {a : AVal} (i : IsInst H a C fs) (k : ∀ b, H b ≠ none → H' b = H b) : IsInst H' a C fs := i.imp id fun ⟨x, dx, e, h⟩ => ⟨x, dx, e, by rw [k x (by rw [h]; simp)]; exact h⟩
theorem IsSeq.ext {xs : List AVal} {a : AVal} (i : IsSeq H a xs) (k : ∀ b, H b ≠ none → H' b = H b) : IsSeq H' a xs := i.imp id fun ⟨x, e, h⟩ => ⟨x, e, by rw [k x (by rw [h]; simp)]; exact h⟩
theorem IsDict.ext {xs : List (Int × AVal)} {a : AVal} (i : IsDict H a xs) (k : ∀ b, H b ≠ none → H' b = H b) : IsDict H' a xs := i.imp id fun ⟨x, e, h⟩ => ⟨x, e, by rw [k x (by rw [h]; simp)]; exact h⟩
theorem ext_upd {a : Addr} {o : Option AObj} (h : H a = none) : ∀ b, H b ≠ none → upd H a o b = H b := fun b hb => upd_ne _ _ fun z => hb (z ▸ h)
end

section
variable {B : Base} {H H' : AHeap} {X D D' : Addr → Prop} {h h' : Heap} {env : Env} {ρ ρ' : Loc} {d : Nat} {sc scope : Scope}

theorem stored_keys_mem {k : Int} {u : Value} : ∀ {kws : List (Int × Value)} {j : Int}, j ∈ (PySem.stored kws k u).map (·.1) → j ∈ kws.map (·.1) ∨ j = k := by
  intro kws j hj
  unfold PySem.stored at hj
  split at hj
  · rw [List.map_map] at hj
    obtain ⟨p, hp, e⟩ := List.mem_map.mp hj
    refine .inl (List.mem_map.mpr ⟨p, hp, ?_⟩)
    rw [← e]
    show p.1 = (if p.1 = k then (p.1, u) else p).1
    split <;> rfl
  · simpa using hj
theorem stored_nodup {k : Int} {u : Value} {kws : List (Int × Value)} (h : (kws.map (·.1)).Nodup) : ((PySem.stored kws k u).map (·.1)).Nodup := by
  unfold PySem.stored
  split
  · have : (kws.map (fun kv => if kv.1 = k then (kv.1, u) else kv)).map (·.1) = kws.map (·.1) := by
      rw [List.map_map]
      refine List.map_congr_left fun p _ => ?_
      show (if p.1 = k then (p.1, u) else p).1 = p.1
      split <;> rfl
    rw [this]; exact h
  · rename_i hk
    rw [List.map_append, List.nodup_append]
    refine ⟨h, by simp, fun a ha b hb => ?_⟩
    simp at hb
    subst hb
    rintro rfl
    obtain ⟨p, hp, e⟩ := List.mem_map.mp ha
    exact hk (List.any_eq_true.mpr ⟨p, hp, by simp [e]⟩)
noncomputable def pput (m : List (Int × AVal)) (ps : List (Int × AVal)) : List (Int × AVal) := ps.foldl (fun m p => dset m p.1 p.2) m
theorem DRels.merged {ps : List (Int × AVal)} : ∀ {kws : List (Int × Value)}, DRels B D h ps kws → ∀ {m : List (Int × AVal)} {mw : List (Int × Value)}, DRels B D h m mw → (mw.map (·.1)).Nodup → DRels B D h (pput m ps) (PySem.merged mw kws) := by
  induction ps with
  | nil => intro kws r m mw rm nd; rw [r.inv_nil]; exact rm
  | cons p ps ih =>
    obtain ⟨k, v⟩ := p
    intro kws r m mw rm nd
    obtain ⟨u, r', rfl, hv, f⟩ := r.inv_cons
    show DRels B D h (pput (dset m k v) ps) (PySem.merged (PySem.stored mw k u) r')
    exact ih f (rm.stored hv nd) (stored_nodup nd)

theorem VL_dictP {a : AVal} {ps : List (Int × AVal)} {Q : AVal → AHeap → Prop} (i : IsSeq H a (ps.map fun p => .tup [.int p.1, p.2])) (hz : ps.length ≤ 1000) (q : Q (.dct (pput [] ps)) H) : VL B d (fun vs => call (.type "dict") vs) [a] Q H := fun A X s vs R S r => by
  obtain ⟨v, vs', rfl, r1, r2⟩ := r.inv_cons
  rw [r2.inv_nil]
  obtain ⟨x, us, n, rfl, hL, f⟩ := seq_of S r1 i
  have hlen : us.length = ps.length := by rw [f.1, List.length_map]
  -- the pairs read off
  have key : ∀ (ps : List (Int × AVal)) (us : List Value), VRels B (Held H X) s.heap (ps.map fun p => AVal.tup [.int p.1, p.2]) us → ∃ kws : List (Int × Value), DRels B (Held H X) s.heap ps kws ∧
      ∀ (j : Nat) (v : Value), us[j]? = some v → ∃ t k x n tk, v = .ref t ∧ kws[j]? = some (k, x) ∧ s.heap.get? t = some { cls := .type "tuple", dict := none, data := .seq #[.int k tk, x] n, slots := #[] } := by
    intro ps
    induction ps with
    | nil => intro us f; rw [f.inv_nil]; exact ⟨[], .nil, fun j v e => by simp at e⟩
    | cons p ps ih =>
      intro us f
      obtain ⟨v, us', rfl, f1, f2⟩ := f.inv_cons
      obtain ⟨kws, d1, d2⟩ := ih us' f2
      obtain ⟨t, ws, n, rfl, ht, g⟩ := tup_of f1
      obtain ⟨w1, g1, rfl, gr, g2⟩ := g.inv_cons
      obtain ⟨w2, g3, rfl, gr2, g4⟩ := g2.inv_cons
      have := g4.inv_nil
      subst this
      cases gr
      rename_i tk
      refine ⟨(p.1, w2) :: kws, DRels.cons gr2 d1, fun j v e => ?_⟩
      cases j with
      | zero => simp at e; subst e; exact ⟨t, p.1, w2, n, tk, rfl, rfl, ht⟩
      | succ j => exact d2 j v (by simpa using e)
  obtain ⟨kws, d1, d2⟩ := key ps us f
  refine call_dict_pairs (kvs := kws) R.handled hL (by rw [hlen, d1.length]) (by rw [d1.length]; exact hz) d2 fun h' tk hD hk => ?_
  have kk : Kept H s.heap H h' := Kept.grown hk
  have d3 := (DRels.merged d1 DRels.nil (by simp)).mono kk.held
  have hns : (s.heap.objs.size == sysModules) = false := S.notSys
  exact ⟨.dct (pput [] ps), H, .dct hD S.fresh hns d3.1 d3.2, S.grown hk, ⟨⟨_, _, rfl⟩, kk⟩, q⟩
theorem W_dictc (T : Facts B) {arg : Expr} {p pos : Pos} {Q : AVal → AHeap → Prop} (h : W B d sc ρ arg (fun a H₁ => ∃ ps, IsSeq H₁ a (ps.map fun p => .tup [.int p.1, p.2]) ∧ ps.length ≤ 1000 ∧ Q (.dct (pput [] ps)) H₁) H) (hk : sc.names.lookup ("dict" : Str) = some .globalImplicit)
    (hp : ∀ env pos, (backTo pos (starEach [arg] env)).any (·.1) = false := by intro _ _; with_unfolding_all rfl) (he : ∀ env, starEach [arg] env = (false, eval arg env) :: starEach [] env := by intro _; with_unfolding_all rfl) :
    W B d sc ρ (.Call (.Name "dict" p) [arg] [] pos) Q H :=
  W_callb (v := .type "dict") (T.free "dict" (by decide +kernel)) (by decide +kernel) hk (fun _ q => by cases q) (WL_cons (W_mono h fun a H₁ ⟨ps, i, hn, q⟩ => WL_nil (VL_dictP i hn q)) he) (hp := hp)

/-- «{k: v}», in the store -/
theorem W_dict1 {k v : Expr} {pos : Pos} {Q : AVal → AHeap → Prop} (h : W B d sc ρ k (fun a H₁ => W B d sc ρ v (fun x H₂ => ∃ i, a = .int i ∧ ∀ p, H₂ p = none → Q (.ref p) (upd H₂ p (some (.dict [(i, x)])))) H₁) H) : W B d sc ρ (.Dict [some k] [v] pos) Q H := fun A env X s R E S L => by
  let I := s.heap.objs.size
  let X' : Addr → Prop := fun b => X b ∨ b = I
  have S2 : SRel B H X' (s.heap.push { cls := .type "dict", data := .dict #[] }) := S.hide _ rfl
  have kd₀ : KeptD (Held H X) s.heap (Held H X') (s.heap.push { cls := .type "dict", data := .dict #[] }) := fun b o e i =>
    ⟨Heap.get?_push_of_some _ e, fun q => q.elim (fun z => i (.inl z)) fun z => z.elim (fun z => i (.inr z)) fun z => Nat.ne_of_lt (Heap.lt_size e) z⟩
  have L2 : LRel B (Held H X') X' (s.heap.push { cls := .type "dict", data := .dict #[] }) env ρ := by
    have := L.moved kd₀ fun b o _ e => Heap.get?_push_of_some _ e
    exact ⟨fun b q => .inl (this.own b q), this.ns, this.cell, this.kind, this.cells, this.apart, this.off⟩
  have nXI : ¬ X I := fun q => S.fresh (.inr q)
  refine wpAny_Dict_pairs (knd := intKind B.prog B.w) (pairs := [(eval k env, do let x ← eval v env; standAt pos; pure x)]) (by with_unfolding_all rfl) (by simp) (by simp) ?_
  refine evalPairs_cons (monoOk (h A env X' _ R E S2 L2) fun kv s₁ ⟨a, H₁, r₁, S₁, t₁, q₁⟩ => ?_)
  refine wpAny_bind (monoOk (q₁ A env X' s₁ R E S₁ (L2.kept S2 t₁.2)) fun vv s₂ ⟨x, H₂, r₂, S₂, t₂, i, e, q₂⟩ => wpAny_bind (wpAny_standAt (wpAny_pure (evalPairs_nil ?_))))
  subst e
  have r₁' := r₁.mono t₂.2.held
  cases r₁'
  rename_i tk
  obtain ⟨⟨h₁, tk₁, rfl⟩, k₁⟩ := t₁
  obtain ⟨⟨h₂, tk₂, rfl⟩, k₂⟩ := t₂
  have nI : H I = none := (S2.hid I (.inr rfl)).1
  have eI : (s.heap.push { cls := .type "dict", data := .dict #[] }).get? I = some { cls := .type "dict", data := .dict #[] } := Heap.get?_push_size _ rfl
  have kI1 := k₁ I _ eI nI
  have kI := k₂ I _ kI1.1 kI1.2
  have hD0 : h₂.DictOf (intKind B.prog B.w) I [] := by
    have : (s.heap.push { cls := .type "dict", data := .dict #[] }).DictOf (intKind B.prog B.w) I [] := Heap.DictOf.new _
    exact this.at fun o e => by rw [eI] at e; cases e; exact kI.1
  refine ⟨[(i, vv)], ⟨intKind_is _ _ _ _, rfl, trivial⟩, hD0, fun h' hD hs => ?_⟩
  have S3 : SRel B H₂ X' h' := S₂.moved (fun b o e n => (hs.2 b fun z => n (.inr z)).trans e) fun b q => by
    by_cases hb : b = I
    · rw [hb]; exact DictOf.at_ hD
    · obtain ⟨_, o, e⟩ := S₂.hid b q; exact ⟨o, (hs.2 b hb).trans e⟩
  have kd3 : KeptD (Held H₂ X') h₂ (Held H₂ X') h' := fun b o e i => ⟨(hs.2 b fun z => i (.inr (.inr z))).trans e, i⟩
  have hm : merged [] [(i, vv)] = [(i, vv)] := rfl
  rw [hm] at hD
  have S4 := S3.take (ob := .dict [(i, x)]) (X' := X) (.inr rfl) (fun b => ⟨fun q => ⟨.inl q, fun z => nXI (z ▸ q)⟩, fun q => q.1.resolve_right q.2⟩) ⟨_, hD, S.notSys, DRels.cons (r₂.mono kd3) .nil⟩
  refine ⟨.ref I, _, .ref, S4, ⟨⟨_, _, rfl⟩, fun b o e i => ?_⟩, q₂ I kI.2⟩
  have hb : b ≠ I := Nat.ne_of_lt (Heap.lt_size e)
  have a1 := k₁ b o (Heap.get?_push_of_some _ e) i
  have a2 := k₂ b o a1.1 a1.2
  exact ⟨(hs.2 b hb).trans a2.1, by rw [upd_ne _ _ hb]; exact a2.2⟩

theorem V2_addS {a b : AVal} {xs ys : List AVal} {Q : AVal → AHeap → Prop} (i : IsSeq H a xs) (j : IsSeq H b ys) (q : ∀ p, H p = none → Q (.ref p) (upd H p (some (.list (xs ++ ys))))) (hz : xs.length + ys.length ≤ 100000) : V2 B d (binaryOp .Add) a b Q H := fun A X s v u R S r r' => by
  obtain ⟨x, vs, n, rfl, hL, f⟩ := seq_of S r i
  obtain ⟨y, us, m, rfl, hM, g⟩ := seq_of S r' j
  have fg := f.append g
  refine PySem.P.add_list hL hM ?_ ?_
  · rw [show vs.toArray ++ us.toArray = (vs ++ us).toArray by simp]
    obtain ⟨S', k⟩ := take_new (s := s) (a := 0) (ob := .list (xs ++ ys)) (o := { cls := Value.type "list", data := Data.seq (vs ++ us).toArray }) S rfl fun D' kd => ⟨vs ++ us, 0, Heap.get?_push_size _ rfl, fg.mono kd⟩
    exact ⟨.ref _, _, .ref, S', ⟨⟨_, _, rfl⟩, k⟩, q _ (Held.none S.fresh)⟩
  · rw [List.size_toArray, List.size_toArray, f.1, g.1, sizeLine_eq]; lia
end
local macro_rules | `(tactic| ktf_call q_lget) => `(tactic| first | ((with_reducible first | exact lget_hd | refine lget1 ?_ | refine lget2 ?_ ?_ | refine lget3 ?_ ?_ ?_ | refine lget4 ?_ ?_ ?_ ?_ | refine lget5 ?_ ?_ ?_ ?_ ?_ | refine lget6 ?_ ?_ ?_ ?_ ?_ ?_ | refine lget7 ?_ ?_ ?_ ?_ ?_ ?_ ?_ | refine lget8 ?_ ?_ ?_ ?_ ?_ ?_ ?_ ?_ | refine lget9 ?_ ?_ ?_ ?_ ?_ ?_ ?_ ?_ ?_ | refine lget10 ?_ ?_ ?_ ?_ ?_ ?_ ?_ ?_ ?_ ?_ | refine lget11 ?_ ?_ ?_ ?_ ?_ ?_ ?_ ?_ ?_ ?_ ?_ | refine lget12 ?_ ?_ ?_ ?_ ?_ ?_ ?_ ?_ ?_ ?_ ?_ ?_) <;> decide +kernel) | (repeat' (first | with_reducible exact lget_hd | (refine lget_tl (by decide +kernel) ?_))))
local macro_rules | `(tactic| ktf_call q_lset0) => `(tactic| ((with_reducible first | exact lset_nil | exact lset_hd | refine lset1 ?_ | refine lset2 ?_ ?_ | refine lset3 ?_ ?_ ?_ | refine lset4 ?_ ?_ ?_ ?_ | refine lset5 ?_ ?_ ?_ ?_ ?_ | refine lset6 ?_ ?_ ?_ ?_ ?_ ?_ | refine lset7 ?_ ?_ ?_ ?_ ?_ ?_ ?_ | refine lset8 ?_ ?_ ?_ ?_ ?_ ?_ ?_ ?_ | refine lset9 ?_ ?_ ?_ ?_ ?_ ?_ ?_ ?_ ?_ | refine lset10 ?_ ?_ ?_ ?_ ?_ ?_ ?_ ?_ ?_ ?_ | refine lset11 ?_ ?_ ?_ ?_ ?_ ?_ ?_ ?_ ?_ ?_ ?_ | refine lset12 ?_ ?_ ?_ ?_ ?_ ?_ ?_ ?_ ?_ ?_ ?_ ?_ | refine lput1 ?_ | refine lput2 ?_ ?_ | refine lput3 ?_ ?_ ?_ | refine lput4 ?_ ?_ ?_ ?_ | refine lput5 ?_ ?_ ?_ ?_ ?_ | refine lput6 ?_ ?_ ?_ ?_ ?_ ?_ | refine lput7 ?_ ?_ ?_ ?_ ?_ ?_ ?_ | refine lput8 ?_ ?_ ?_ ?_ ?_ ?_ ?_ ?_ | refine lput9 ?_ ?_ ?_ ?_ ?_ ?_ ?_ ?_ ?_ | refine lput10 ?_ ?_ ?_ ?_ ?_ ?_ ?_ ?_ ?_ ?_ | refine lput11 ?_ ?_ ?_ ?_ ?_ ?_ ?_ ?_ ?_ ?_ ?_ | refine lput12 ?_ ?_ ?_ ?_ ?_ ?_ ?_ ?_ ?_ ?_ ?_ ?_) <;> decide +kernel))
local macro_rules | `(tactic| ktf_call q_lset) => `(tactic| first | ktf_call q_lset0 | (repeat' (first | with_reducible exact lset_nil | with_reducible exact lset_hd | (refine lset_tl (ρ' := ?_) ?_ ?_; rotate_left; (· decide +kernel)))))
local macro_rules | `(tactic| ktf_call q_lsetk) => `(tactic| first | ktf_call q_lset0 | (repeat' (first | exact lset_nil | with_reducible exact lset_hd | (refine lset_tl ?_ ?_; (· decide +kernel)))))
local macro_rules | `(tactic| ktf_call q_sub) => `(tactic| (repeat (first | exact Sub.nil _ | exact Sub.refl _ | (apply Sub.cons; (· ktf_call q_lget)))))
local macro_rules | `(tactic| ktf_call q_abs) => `(tactic| (intro hc; (try dsimp only at hc); exact absurd hc (by decide +kernel)))
local macro_rules | `(tactic| ktf_call q_bind) => `(tactic| (intro name qual doc pm an cdv ct; first | exact ar1 fun a => rfl | exact ar2 fun a b => rfl | exact ar3 fun a b c => rfl | exact ar4 fun a b c e => rfl | exact ar5 fun a b c e f => rfl))
local macro_rules | `(tactic| ktf_call q_item) => `(tactic| ((with_reducible first | apply ItemQ.t0 | apply ItemQ.t1 | apply ItemQ.t2 | apply ItemQ.t3 | apply ItemQ.t4 | apply ItemQ.t5 | apply ItemQ.t6); (· exact rfl)))
local macro_rules | `(tactic| ktf_call q_s1) => `(tactic| first | (with_reducible first | refine Cont_cons ?_ | refine Cont_nil ?_) | ((with_reducible refine WA_name' (ρ' := ?_) ?_ ?_ ?_); rotate_left; (· decide +kernel); (· ktf_call q_lset)))
local macro_rules | `(tactic| ktf_call q_s) => `(tactic| first
  | ktf_call q_s1
  | (with_reducible first | refine Cont_ret ?_ | refine RetQ_ret ?_ | refine RetQ_next ?_ | refine FQ_ret ?_ | refine WS_cons ?_ | refine WS_nil ?_ | refine W1_ret ?_ | refine W1_if ?_ | refine W1_expr ?_ | refine W1_assign ?_ | refine WA_attr ?_ | refine WA_sub ?_ | refine WA_tup ?_ | refine WAs_cons ?_ | refine WAs_nil ?_ | refine WL_cons ?_ | refine WL_nil ?_)
  | ((with_reducible refine FQ_next ?_ ?_); (· ktf_call q_sub)))
local macro_rules | `(tactic| ktf_call q_e) => `(tactic| first
  | (with_reducible first | refine W_int ?_ | refine W_str ?_ | refine W_none ?_ | refine W_bool ?_ | refine W_bin ?_ | refine W_cmp ?_ | refine WB_cmp ?_ | refine WB_not ?_ | refine WB_or1 ?_ | refine WB_or0 ?_ | refine WB_and1 ?_ | refine WB_and0 ?_ | refine W_tup ?_ | refine W_uptoT (k := 3) ?_ | refine W_uptoT (k := 4) ?_ | refine W_fromT (k := 4) ?_ (by decide) | refine W_fromT (k := 5) ?_ (by decide) | refine W_sub ?_ | refine W_neg ?_)
  | ((with_reducible refine W_v (v := ?_) ?_ ?_ ?_); rotate_left; (· ktf_call q_lget); (· decide +kernel))
  | ((with_reducible first | refine W_tx1 ?_ ?_ ?_ | refine W_tx2 ?_ ?_ ?_ | refine W_tx3 ?_ ?_ ?_ | refine W_tx4 ?_ ?_ ?_ | refine W_tx5 ?_ ?_ ?_ | refine W_tx6 ?_ ?_ ?_); (· assumption); (· decide +kernel))
  | (with_reducible first | refine W_len (by assumption) ?_ (by decide +kernel) | refine W_sorted (by assumption) ?_ (by decide +kernel) | refine W_abs (by assumption) ?_ (by decide +kernel) | refine W_listc (by assumption) ?_ (by decide +kernel) | refine W_range (by assumption) ?_ (by decide +kernel) | refine W_append ?_ | refine W_extend ?_ | refine W_pop ?_ | refine W_get ?_ | refine W_setdefault ?_ | refine W_attrI ?_)
  | ((with_reducible show W _ _ _ _ (Expr.Call (Expr.Name _ _) _ _ _) _ _); refine W_callg (by decide +kernel) ?_ (Facts.g ‹Facts _› _ (by decide +kernel)))
  | with_reducible refine W_methg ?_)
local macro_rules | `(tactic| ktf_call q_v) => `(tactic| with_reducible first | refine V2_add ?_ | refine V2_sub ?_ | refine V2_ltI ?_ | refine V2_gtI ?_ | refine V2_geI ?_ | refine V2_eqI ?_ | refine V2_neI ?_ | refine V2_eqS ?_ | refine V2_neB ?_ | refine BoolQ.of ?_ | refine ⟨_, rfl, ?_⟩)
local macro_rules | `(tactic| ktf_call q_attr) => `(tactic| ((refine ⟨?_, ?_, ?_, ?_, ?_, ?_, ?_⟩); rotate_left 3; (· first | with_reducible assumption | exact .inl rfl | exact .inr ⟨_, _, rfl, upd_self ..⟩ | exact ‹∀ ob, IsInst (upd _ _ ob) _ _ _› _); (· exact Facts.fd _ _ _ (by decide +kernel)); (· ktf_call q_lget)))
local macro_rules | `(tactic| ktf_call q_set) => `(tactic| ((with_reducible refine U2_setTop (fs' := ?_) ?_ ?_ ?_ ?_); rotate_left; (· exact Facts.fd _ _ _ (by decide +kernel)); (· exact Nat.le_of_ble_eq_true rfl); (· ktf_call q_lset)))
local macro_rules | `(tactic| ktf_call q_z) => `(tactic| (simp only [zipL]; refine WS_cons ?_))
local macro_rules | `(tactic| ktf_call q_apif) => `(tactic| ((repeat ktf_call q_s1); (refine W1_appendIf (a := ?_) ?_ ?_ ?_ ?_ ?_ ?_ ?_); rotate_left; (· ktf_call q_lget); rotate_left; (· decide +kernel); (· decide +kernel); (· decide); (· intro _ _; rfl); (· intro _; rfl); ktf_call q_mm))
local macro_rules | `(tactic| ktf_call q_m) => `(tactic| first | ktf_call q_s | ktf_call q_e | ktf_call q_v | ktf_call q_set | ktf_call q_item | ktf_call q_attr)
local macro_rules | `(tactic| ktf_call q_mm) => `(tactic| repeat ktf_call q_m)
local macro_rules | `(tactic| ktf_call q_free) => `(tactic| (intro p hp; (repeat (refine (List.mem_cons.mp hp).elim (fun e => by rw [e]; dsimp only; decide +kernel) ?_; clear hp; intro hp)); exact nomatch hp))


/-! ## the facts of the text, out of the written part of the store -/

noncomputable def nsRef (K : Frag) (x : Str) : Addr := match nsIn K mainGlobals x with
  | some (some (.ref a)) => a
  | _ => 0
noncomputable def nsOk (K : Frag) (x : Str) : Bool := match nsIn K mainGlobals x with
  | some (some (.ref _)) => true
  | _ => false
theorem nsOk_eq {K : Frag} {x : Str} (h : nsOk K x = true) : nsIn K mainGlobals x = some (some (.ref (nsRef K x))) := by
  unfold nsOk at h
  unfold nsRef
  split at h
  · rename_i a e; rw [e]
  · cases h
noncomputable def meRef (K : Frag) (C : Addr) (x : Str) : Addr := match findIn K (.ref C) x with
  | some (some (.ref a)) => a
  | _ => 0
noncomputable def meOk (K : Frag) (C : Addr) (x : Str) : Bool := match findIn K (.ref C) x with
  | some (some (.ref _)) => true
  | _ => false
theorem meOk_eq {K : Frag} {C : Addr} {x : Str} (h : meOk K C x = true) : findIn K (.ref C) x = some (some (.ref (meRef K C x))) := by
  unfold meOk at h
  unfold meRef
  split at h
  · rename_i a e; rw [e]
  · cases h
noncomputable def fnA (K : Frag) (i : Nat) : Addr := nsRef K (nam (stAt i))
noncomputable def meA (K : Frag) (i j : Nat) : Addr := meRef K (fnA K i) (nam (meAt i j))
noncomputable def fdIn (K : Frag) (f : Addr) : Option FuncData := match K.lookup f with
  | some ⟨_, _, .func fd, _⟩ => some fd
  | _ => none
noncomputable def fdLike (st : Stmt) (fd : FuncData) : FuncData := fnOf fd.name fd.qualname (prm st) (bod st) (scp st) .none .none fd.doc fd.pyModule fd.annotations fd.code fd.closureTuple
noncomputable def fdCode (K : Frag) (f : Addr) : Bool := (fdIn K f).any fun fd => codeIn K fd.code fd.qualname
theorem FnIs_of {K : Frag} {f : Addr} {st : Stmt} (h2 : fdIn K f = (fdIn K f).map (fdLike st)) (h3 : fdCode K f = true) : FnIs K f (prm st) (bod st) (scp st) := by
  unfold fdCode at h3
  cases h : fdIn K f with
  | none => rw [h] at h3; cases h3
  | some fd =>
    rw [h] at h2 h3
    have h2' : fd = fdLike st fd := Option.some.inj h2
    have h3' : codeIn K fd.code fd.qualname = true := h3
    unfold fdIn at h
    split at h
    · rename_i oc od fd' osl e
      cases h
      exact ⟨_, _, _, _, _, _, _, _, _, _, by rw [e, h2']; rfl, by rw [h2'] at h3'; exact h3'⟩
    · cases h

noncomputable def allMe : List (Nat × Nat) := meIdx ++ clIdx.map fun i => (i, 0)
structure KOK (K : Frag) : Prop where
  fns : (fnIdx.map fun i => fdIn K (fnA K i)) = fnIdx.map fun i => (fdIn K (fnA K i)).map (fdLike (stAt i))
  fnb : (fnIdx.all fun i => nsOk K (nam (stAt i)) && keepIn K (.ref (fnA K i)) && fdCode K (fnA K i)) = true
  mes : (allMe.map fun p => fdIn K (meA K p.1 p.2)) = allMe.map fun p => (fdIn K (meA K p.1 p.2)).map (fdLike (meAt p.1 p.2))
  meb : (allMe.all fun p => meOk K (fnA K p.1) (nam (meAt p.1 p.2)) && isFn K (.ref (meA K p.1 p.2)) && keepIn K (.ref (meA K p.1 p.2)) && fdCode K (meA K p.1 p.2)) = true
  clb : (clIdx.all fun i => nsOk K (nam (stAt i)) && keepIn K (.ref (fnA K i)) && makesIn K (fnA K i) && plainGet K (fnA K i) "" && hasDictIn K (fnA K i) && plainOver K (fnA K i)) = true
  ini : (clIdx.map fun i => nam (meAt i 0)) = clIdx.map fun _ => ("__init__" : Str)
  typ : (clIdx.map fun i => typeIn K (.ref (meA K i 0))) = clIdx.map fun _ => some (.type "function")
  fld : (fieldIdx.map fun p => findIn K (.ref (fnA K p.1)) p.2) = fieldIdx.map fun _ => some none
  set : (clIdx.map fun i => findIn K (.ref (fnA K i)) "__setattr__") = clIdx.map fun _ => some (some (.builtin "object.__setattr__"))
  txt : (txIdx.all fun p => match nsIn K mainGlobals p.1 with | some (some (.str v _)) => v == p.2 | _ => false) = true
  fre : ((["abs", "len", "range", "list", "sorted", "dict"] : List Str).map fun x => nsIn K mainGlobals x) = (["abs", "len", "range", "list", "sorted", "dict"] : List Str).map fun _ => some none

theorem map_eq_at {α β : Type} {f g : α → β} : ∀ {l : List α}, l.map f = l.map g → ∀ x ∈ l, f x = g x
  | y :: l, h, x, hx => by
    rw [List.map_cons, List.map_cons, List.cons.injEq] at h
    rcases List.mem_cons.mp hx with rfl | hx
    · exact h.1
    · exact map_eq_at h.2 x hx

noncomputable def KOK.facts {B : Base} (k : KOK B.K) : Facts B where
  fn := fnA B.K
  me := meA B.K
  fnok i hi := by
    have h1 := map_eq_at k.fns i hi
    have h2 := List.all_eq_true.mp k.fnb i hi
    simp only [Bool.and_eq_true] at h2
    exact ⟨glob_of (nsOk_eq h2.1.1), h2.1.2, FnIs_of h1 h2.2⟩
  clsok i hi := by
    have h2 := List.all_eq_true.mp k.clb i hi
    simp only [Bool.and_eq_true] at h2
    obtain ⟨⟨⟨⟨⟨a1, a2⟩, a3⟩, a4⟩, a5⟩, a6⟩ := h2
    have h3 := List.all_eq_true.mp k.meb (i, 0) (List.mem_append_right _ (List.mem_map_of_mem hi))
    simp only [Bool.and_eq_true] at h3
    have e := meOk_eq h3.1.1.1
    have en := map_eq_at k.ini i hi
    refine ⟨glob_of (nsOk_eq a1), a2, a3, ?_, map_eq_at k.typ i hi⟩
    show findIn B.K (.ref (fnA B.K i)) "__init__" = some (some (.ref (meRef B.K (fnA B.K i) (nam (meAt i 0)))))
    rw [← en]; exact e
  meok p hp := by
    have hp' : p ∈ allMe := List.mem_append_left _ hp
    have h3 := List.all_eq_true.mp k.meb p hp'
    simp only [Bool.and_eq_true] at h3
    have hc : p.1 ∈ clIdx := by
      have : ∀ q ∈ meIdx, q.1 ∈ clIdx := by decide
      exact this p hp
    have h2 := List.all_eq_true.mp k.clb p.1 hc
    simp only [Bool.and_eq_true] at h2
    exact ⟨⟨h2.1.1.2, meOk_eq h3.1.1.1, h3.1.1.2, h3.1.2⟩, FnIs_of (map_eq_at k.mes p hp') h3.2⟩
  inok i hi := by
    have hp' : (i, 0) ∈ allMe := List.mem_append_right _ (List.mem_map_of_mem hi)
    have h3 := List.all_eq_true.mp k.meb (i, 0) hp'
    simp only [Bool.and_eq_true] at h3
    exact FnIs_of (map_eq_at k.mes (i, 0) hp') h3.2
  field p hp := by
    have hc : p.1 ∈ clIdx := by
      have : ∀ q ∈ fieldIdx.map (·.1), q ∈ clIdx := by decide
      exact this p.1 (List.mem_map_of_mem hp)
    have h2 := List.all_eq_true.mp k.clb p.1 hc
    simp only [Bool.and_eq_true] at h2
    obtain ⟨⟨⟨⟨⟨a1, a2⟩, a3⟩, a4⟩, a5⟩, a6⟩ := h2
    exact ⟨a4, a5, map_eq_at k.fld p hp, map_eq_at k.set p.1 hc, a6⟩
  text p hp := by
    have h2 := List.all_eq_true.mp k.txt p hp
    split at h2
    · rename_i v t e
      exact ⟨t, by rw [glob_of e, beq_iff_eq.mp h2]⟩
    · cases h2
  free p hp := globNone_of (map_eq_at k.fre p hp)


/-! ## draw -/

noncomputable def deckO (cells : List Int) (pos : Nat) : AObj := .list [.lst (intsL cells), .int pos]
structure CellsOK (cells : List Int) : Prop where
  ne : cells ≠ []
  len : cells.length ≤ 100
  rng : ∀ c ∈ cells, 0 ≤ c ∧ c ≤ 1000003

theorem fmod_nat {a : Int} {m : Nat} (h : 0 < m) : ∃ r : Nat, r < m ∧ Int.fmod a m = r := by
  have h1 : (0 : Int) < m := by lia
  rw [Int.fmod_eq_emod_of_nonneg _ (by lia)]
  have h2 := Int.emod_nonneg a (b := m) (by lia)
  have h3 := Int.emod_lt_of_pos a h1
  exact ⟨(a % m).toNat, by lia, by lia⟩
theorem pylong_small {x : Int} : Builtin.divisionGoesByPylong x 128 = false := by
  unfold Builtin.divisionGoesByPylong
  have : (if ((128 : Int) == 0) = true then 0 else (128 : Int).natAbs.log2 / 30 + 1) = 1 := by decide
  simp only [this]; rfl
theorem intsL_at {cells : List Int} {i : Nat} (h : i < cells.length) : ∃ c, (intsL cells)[i]? = some (.int c) := by
  refine ⟨cells[i], ?_⟩
  simp [intsL, h]

section
variable {B : Base} {H : AHeap} {d : Nat}

theorem draw_spec (T : Facts B) {dk : Addr} {cells : List Int} {pos many : Nat} {Q : AVal → AHeap → Prop} (hdk : H dk = some (deckO cells pos)) (ok : CellsOK cells) (hm : 0 < many)
    (q : ∀ r : Nat, r < many → Q (.int r) (upd H dk (some (deckO cells (pos + 1))))) : CallG B (d + 1) "_law_draw" [.ref dk, .int many] Q H := by
  refine fn_start T 31 ["deck", "many"] (by decide) (by decide +kernel) (by ktf_call q_bind) (by decide +kernel) rfl ?_
  ktf_call q_z
  have h1 : H dk = some (.list [.lst (intsL cells), .int pos]) := hdk
  have lenI : (intsL cells).length = cells.length := by simp [intsL]
  have cpos : 0 < cells.length := List.length_pos_iff.mpr ok.ne
  have clen := ok.len
  ktf_call q_mm
  refine ⟨_, .inr ⟨_, 1, .inl (.inr ⟨dk, rfl, h1⟩), rfl, by decide, rfl⟩, ?_⟩
  ktf_call q_mm
  refine U3_setL (i := 1) h1 (by simp) (by decide) ?_
  have e2 : upd H dk (some (.list ([.lst (intsL cells), .int pos].set 1 (.int (pos + 1))))) = upd H dk (some (deckO cells (pos + 1))) := by
    unfold deckO; simp
  rw [e2]
  have h2 : upd H dk (some (deckO cells (pos + 1))) dk = some (.list [.lst (intsL cells), .int (pos + 1 : Nat)]) := upd_self ..
  ktf_call q_mm
  refine ⟨_, .inr ⟨_, 1, .inl (.inr ⟨dk, rfl, h2⟩), rfl, by decide, rfl⟩, ?_⟩
  ktf_call q_mm
  refine ⟨_, .inr ⟨_, 0, .inl (.inr ⟨dk, rfl, h2⟩), rfl, by decide, rfl⟩, ?_⟩
  refine ⟨cells.length, by lia, .inl ⟨_, .inl rfl, lenI⟩, ?_⟩
  ktf_call q_mm
  refine ⟨fun hc => ?_, fun hc => ?_⟩
  · have hlt : pos + 1 < cells.length := by have := of_decide_eq_true hc; lia
    ktf_call q_mm
    refine ⟨_, .inr ⟨_, 0, .inl (.inr ⟨dk, rfl, h2⟩), rfl, by decide, rfl⟩, ?_⟩
    ktf_call q_mm
    refine ⟨_, .inr ⟨_, 1, .inl (.inr ⟨dk, rfl, h2⟩), rfl, by decide, rfl⟩, ?_⟩
    ktf_call q_mm
    obtain ⟨c, hcell⟩ := intsL_at (cells := cells) (i := pos) (by lia)
    refine ⟨_, .inr ⟨_, pos, .inl (.inl rfl), by congr 1; lia, by lia, hcell⟩, ?_⟩
    ktf_call q_mm
    obtain ⟨r, r1, r2⟩ := fmod_nat (a := c) hm
    refine V2_mod ?_ (by lia)
    ktf_call q_mm
    rw [r2]; exact q r r1
  · ktf_call q_mm
    refine ⟨_, .inr ⟨_, 0, .inl (.inr ⟨dk, rfl, h2⟩), rfl, by decide, rfl⟩, ?_⟩
    ktf_call q_mm
    refine ⟨_, .inr ⟨_, 1, .inl (.inr ⟨dk, rfl, h2⟩), rfl, by decide, rfl⟩, ?_⟩
    ktf_call q_mm
    refine ⟨_, .inr ⟨_, 0, .inl (.inr ⟨dk, rfl, h2⟩), rfl, by decide, rfl⟩, ?_⟩
    refine ⟨cells.length, by lia, .inl ⟨_, .inl rfl, lenI⟩, ?_⟩
    obtain ⟨r, r1, r2⟩ := fmod_nat (a := ((pos + 1 : Nat) : Int)) cpos
    refine V2_mod ?_ (by lia)
    rw [r2]
    obtain ⟨c, hcell⟩ := intsL_at r1
    refine ⟨_, .inr ⟨_, r, .inl (.inl rfl), rfl, by lia, hcell⟩, ?_⟩
    ktf_call q_mm
    refine V2_mul ?_ (.of_right (by decide))
    ktf_call q_mm
    refine ⟨_, .inr ⟨_, 1, .inl (.inr ⟨dk, rfl, h2⟩), rfl, by decide, rfl⟩, ?_⟩
    ktf_call q_mm
    refine V2_mul ?_ (.of_right (by decide))
    ktf_call q_mm
    refine V2_mod ?_ (by decide)
    ktf_call q_mm
    refine V2_mod ?_ (by decide)
    ktf_call q_mm
    obtain ⟨z, z1, z2⟩ := fmod_nat (a := Int.fmod (c * 69069 + ((pos + 1 : Nat) : Int) * 40503 + 12345) 4294967291) (m := 65521) (by decide)
    refine V2_mul ?_ (.of_right (intBits_le_64 (by rw [show (65521 : Int) = ((65521 : Nat) : Int) from rfl, z2]; lia) (by rw [show (65521 : Int) = ((65521 : Nat) : Int) from rfl, z2]; lia)))
    ktf_call q_mm
    refine ⟨_, .inr ⟨_, 1, .inl (.inr ⟨dk, rfl, h2⟩), rfl, by decide, rfl⟩, ?_⟩
    ktf_call q_mm
    refine V2_mod ?_ (by decide)
    ktf_call q_mm
    refine V2_fdiv ?_ (by decide) pylong_small
    ktf_call q_mm
    obtain ⟨y, y1, y2⟩ := fmod_nat (a := Int.fdiv (Int.fmod ((c * 69069 + ((pos + 1 : Nat) : Int) * 40503 + 12345).fmod 4294967291 * (((c * 69069 + ((pos + 1 : Nat) : Int) * 40503 + 12345).fmod 4294967291).fmod 65521 + 1) + ((pos + 1 : Nat) : Int)) 2147483629) 128) hm
    refine V2_mod ?_ (by lia)
    ktf_call q_mm
    rw [y2]; exact q y y1
end


/-! ## rows, and the objects that stand for them -/

structure OpR where
  word : Str
  result : Int
  number : Int
  args : List Int
  results : List Int
  labels : List Int
structure LastR where
  word : Str
  fun_ : Int
  args : List Int
  to : Int
  other : Int
  var : Int
structure RowR where
  sort : Str
  params : List Int
  rest : Int
  var : Int
  parent : Int
  ops : List OpR
  last : LastR

noncomputable abbrev opT (o : OpR) : AVal := .tup [.str o.word, .int o.result, .int o.number, .lst (intsL o.args), .lst (intsL o.results), .lst (intsL o.labels)]
noncomputable abbrev lastT (l : LastR) : AVal := .tup [.str l.word, .int l.fun_, .lst (intsL l.args), .int l.to, .int l.other, .int l.var]
noncomputable abbrev rowT (r : RowR) : AVal := .tup [.str r.sort, .lst (intsL r.params), .int r.rest, .int r.var, .int r.parent, .lst (r.ops.map opT), lastT r.last]
noncomputable abbrev rowsT (rs : List (Int × RowR)) : AVal := .dct (rs.map fun p => (p.1, rowT p.2))

noncomputable abbrev opF (o : OpR) (dt : AVal) : List (Str × AVal) := [("result", .int o.result), ("word", .str o.word), ("number", .int o.number), ("args", .lst (intsL o.args)), ("datum", dt), ("results", .lst (intsL o.results)), ("labels", .lst (intsL o.labels))]
noncomputable abbrev lastF (l : LastR) : List (Str × AVal) := [("word", .str l.word), ("fun", .int l.fun_), ("args", .lst (intsL l.args)), ("to", .int l.to), ("other", .int l.other), ("var", .int l.var)]
noncomputable abbrev blkF (k : Int) (r : RowR) (ov lv : AVal) : List (Str × AVal) := [("label", .int k), ("sort", .str r.sort), ("params", .lst (intsL r.params)), ("rest", .int r.rest), ("var", .int r.var), ("home", .int k), ("parent", .int r.parent), ("title", .str ""), ("ops", ov), ("last", lv)]

section
variable {B : Base} {H : AHeap} {d : Nat}

theorem op_new (T : Facts B) {r n : Int} {w : Str} {as : List Int} {Q : AVal → AHeap → Prop}
    (q : ∀ a dx, a ≠ dx → H a = none → H dx = none → Q (.ref a) (upd (upd H dx (some (.shadow a))) a (some (.inst (T.fn 8) dx (opF ⟨w, r, n, as, [], []⟩ .none))))) :
    CallG B (d + 2) "KOp" [.int r, .str w, .int n, .lst (intsL as)] Q H := by
  refine cl_start T 8 ["self", "result", "word", "number", "args"] (by decide) (by decide +kernel) (by ktf_call q_bind) (by decide +kernel) rfl fun a dx ne h1 h2 => ?_
  ktf_call q_z
  ktf_call q_mm
  refine W_lst ?_
  ktf_call q_mm
  refine ⟨by decide, ?_⟩
  ktf_call q_mm
  refine W_lst ?_
  ktf_call q_mm
  refine ⟨by decide, ?_⟩
  ktf_call q_mm
  exact ⟨rfl, q a dx ne h1 h2⟩

theorem last_new (T : Facts B) {w : Str} {Q : AVal → AHeap → Prop}
    (q : ∀ a dx, a ≠ dx → H a = none → H dx = none → Q (.ref a) (upd (upd H dx (some (.shadow a))) a (some (.inst (T.fn 12) dx (lastF ⟨w, -1, [], -1, -1, -1⟩))))) :
    CallG B (d + 2) "KLast" [.str w] Q H := by
  refine cl_start T 12 ["self", "word"] (by decide) (by decide +kernel) (by ktf_call q_bind) (by decide +kernel) rfl fun a dx ne h1 h2 => ?_
  ktf_call q_z
  ktf_call q_mm
  refine W_lst ?_
  ktf_call q_mm
  refine ⟨by decide, ?_⟩
  ktf_call q_mm
  exact ⟨rfl, q a dx ne h1 h2⟩

noncomputable abbrev opV (T : Facts B) (o : OpR) (dt : AVal) : AVal := .obj (T.fn 8) (opF o dt)
noncomputable abbrev lastV (T : Facts B) (l : LastR) : AVal := .obj (T.fn 12) (lastF l)

theorem const_spec (T : Facts B) {r : Int} {dt : AVal} {Q : AVal → AHeap → Prop} (q : Q (opV T ⟨"const", r, -1, [], [], []⟩ dt) H) : CallG B (d + 3) "const_op" [.int r, dt] Q H := by
  refine CallG.freeze (fn_start T 9 ["result", "datum"] (by decide) (by decide +kernel) (by ktf_call q_bind) (by decide +kernel) rfl ?_)
  ktf_call q_z
  ktf_call q_mm
  refine W_lst ?_
  ktf_call q_mm
  refine ⟨by decide, ?_⟩
  ktf_call q_mm
  refine op_new (as := []) T fun a dx ne h1 h2 => ?_
  ktf_call q_mm
  exact froze_inst ne h1 h2 q
theorem fun_spec (T : Facts B) {r l : Int} {Q : AVal → AHeap → Prop} (q : Q (opV T ⟨"fun", r, -1, [], [], [l]⟩ .none) H) : CallG B (d + 3) "fun_op" [.int r, .int l] Q H := by
  refine CallG.freeze (fn_start T 10 ["result", "label"] (by decide) (by decide +kernel) (by ktf_call q_bind) (by decide +kernel) rfl ?_)
  ktf_call q_z
  ktf_call q_mm
  refine W_lst ?_
  ktf_call q_mm
  refine ⟨by decide, ?_⟩
  ktf_call q_mm
  refine op_new (as := []) T fun a dx ne h1 h2 => ?_
  ktf_call q_mm
  refine W_lst ?_
  ktf_call q_mm
  refine ⟨by simp, ?_⟩
  ktf_call q_mm
  exact froze_inst ne h1 h2 q
theorem fix_spec (T : Facts B) {rs ls : List Int} {Q : AVal → AHeap → Prop} (hr : rs.length ≤ 100) (hl : ls.length ≤ 100) (q : Q (opV T ⟨"fix", -1, -1, [], rs, ls⟩ .none) H) : CallG B (d + 3) "fix_op" [.lst (intsL rs), .lst (intsL ls)] Q H := by
  refine CallG.freeze (fn_start T 11 ["results", "labels"] (by decide) (by decide +kernel) (by ktf_call q_bind) (by decide +kernel) rfl ?_)
  ktf_call q_z
  ktf_call q_mm
  refine W_lst ?_
  ktf_call q_mm
  refine ⟨by decide, ?_⟩
  ktf_call q_mm
  refine op_new (as := []) T fun a dx ne h1 h2 => ?_
  ktf_call q_mm
  refine ⟨_, .inl rfl, by simp [intsL]; lia, ?_⟩
  ktf_call q_mm
  refine ⟨_, .inl rfl, by simp [intsL]; lia, ?_⟩
  ktf_call q_mm
  exact froze_inst ne h1 h2 q
end


/-! ## methods of ops, ends and blocks -/

noncomputable def opGiven (o : OpR) : List Int := if (o.word == "fix") = true then o.results else if o.result ≥ 0 then [o.result] else []
noncomputable def lastReads (l : LastR) : List Int := l.args ++ ((if l.fun_ ≥ 0 then [l.fun_] else []) ++ (if l.var ≥ 0 then [l.var] else []))
noncomputable def lastTargets (l : LastR) : List Int := (if l.to ≥ 0 then [l.to] else []) ++ (if l.other ≥ 0 then [l.other] else [])
noncomputable def blkBinders (r : RowR) : List Int := r.params ++ ((if r.rest ≥ 0 then [r.rest] else []) ++ (if r.var ≥ 0 then [r.var] else []))
noncomputable def blkGiven (r : RowR) : List Int := blkBinders r ++ r.ops.flatMap opGiven

theorem intsL_append (a b : List Int) : intsL (a ++ b) = intsL a ++ intsL b := by simp [intsL]
theorem intsL_len (a : List Int) : (intsL a).length = a.length := by simp [intsL]
theorem intsL_one (i : Int) : intsL [i] = [.int i] := rfl
theorem intsL_nil : intsL [] = [] := rfl
theorem intsL_cons (i : Int) (a : List Int) : intsL (i :: a) = .int i :: intsL a := rfl

structure OpOK (o : OpR) : Prop where
  args : o.args.length ≤ 100
  results : o.results.length ≤ 100
  labels : o.labels.length ≤ 100
structure LastOK (l : LastR) : Prop where
  args : l.args.length ≤ 100

section
variable {B : Base} {H H' : AHeap} {d : Nat}

theorem ext_new {a dx : Addr} {i j : Option AObj} (h1 : H a = none) (h2 : H dx = none) : ∀ b, H b ≠ none → upd (upd H dx i) a j b = H b := fun b hb => by
  rw [upd_ne _ _ fun (z : b = a) => hb (by rw [z]; exact h1), upd_ne _ _ fun (z : b = dx) => hb (by rw [z]; exact h2)]

theorem opGiven_spec (T : Facts B) {v dt : AVal} {o : OpR} {Q : AVal → AHeap → Prop} (hi : IsInst H v (T.fn 8) (opF o dt)) (ok : OpOK o) (q : Q (.lst (intsL (opGiven o))) H) : CallM B (d + 1) (T.fn 8) "given" [v] Q H := by
  refine me_start T 8 1 ["self"] (by decide) (by decide +kernel) (by ktf_call q_bind) (by decide +kernel) rfl ?_
  ktf_call q_z
  ktf_call q_mm
  refine ⟨fun hc => ?_, fun hc => ?_⟩
  · ktf_call q_mm
    refine ⟨_, .inl rfl, by have := ok.results; simp [intsL]; lia, ?_⟩
    ktf_call q_mm
    unfold opGiven at q
    rwa [if_pos hc] at q
  · ktf_call q_mm
    refine W_if ?_
    ktf_call q_mm
    refine ⟨fun hd => ?_, fun hd => ?_⟩
    · refine W_lst ?_
      ktf_call q_mm
      refine ⟨by simp, ?_⟩
      ktf_call q_mm
      unfold opGiven at q
      rwa [if_neg (by rw [hc]; decide), if_pos (of_decide_eq_true hd)] at q
    · refine W_lst ?_
      ktf_call q_mm
      refine ⟨by simp, ?_⟩
      ktf_call q_mm
      unfold opGiven at q
      rwa [if_neg (by rw [hc]; decide), if_neg (of_decide_eq_false hd)] at q

theorem opCopied_spec (T : Facts B) {v dt : AVal} {o : OpR} {Q : AVal → AHeap → Prop} (hi : IsInst H v (T.fn 8) (opF o dt)) (ok : OpOK o)
    (q : ∀ a dx, a ≠ dx → H a = none → H dx = none → Q (.ref a) (upd (upd H dx (some (.shadow a))) a (some (.inst (T.fn 8) dx (opF o dt))))) : CallM B (d + 3) (T.fn 8) "copied" [v] Q H := by
  refine me_start T 8 2 ["self"] (by decide) (by decide +kernel) (by ktf_call q_bind) (by decide +kernel) rfl ?_
  ktf_call q_z
  ktf_call q_mm
  refine ⟨_, .inl rfl, by have := ok.args; simp [intsL]; lia, ?_⟩
  ktf_call q_mm
  refine op_new (as := o.args) T fun a dx ne h1 h2 => ?_
  have hi2 : ∀ fs, IsInst (upd (upd H dx (some (.shadow a))) a (some (.inst (T.fn 8) dx fs))) v (T.fn 8) (opF o dt) := fun fs => hi.ext (ext_new h1 h2)
  have i1 := hi2 (opF ⟨o.word, o.result, o.number, o.args, [], []⟩ .none)
  ktf_call q_mm
  have i2 := hi2 (opF ⟨o.word, o.result, o.number, o.args, [], []⟩ dt)
  ktf_call q_mm
  refine ⟨_, .inl rfl, by have := ok.results; simp [intsL]; lia, ?_⟩
  ktf_call q_mm
  have i3 := hi2 (opF ⟨o.word, o.result, o.number, o.args, o.results, []⟩ dt)
  ktf_call q_mm
  refine ⟨_, .inl rfl, by have := ok.labels; simp [intsL]; lia, ?_⟩
  ktf_call q_mm
  exact q a dx ne h1 h2

theorem intsIf {c : Prop} [Decidable c] (i : Int) : intsL (if c then [i] else []) = if c then [AVal.int i] else [] := by split <;> rfl

theorem lastReads_spec (T : Facts B) {v : AVal} {l : LastR} {Q : AVal → AHeap → Prop} (hi : IsInst H v (T.fn 12) (lastF l)) (ok : LastOK l) (q : ∀ a, H a = none → Q (.ref a) (upd H a (some (.list (intsL (lastReads l)))))) : CallM B (d + 1) (T.fn 12) "reads" [v] Q H := by
  refine me_start T 12 1 ["self"] (by decide) (by decide +kernel) (by ktf_call q_bind) (by decide +kernel) rfl ?_
  have hz := ok.args
  ktf_call q_z
  ktf_call q_s
  refine W_listS T ?_ (by decide +kernel)
  ktf_call q_mm
  refine ⟨_, .inl rfl, by simp [intsL]; lia, fun a h1 => ?_⟩
  have hi2 : ∀ xs, IsInst (upd H a (some (.list xs))) v (T.fn 12) (lastF l) := fun xs => hi.ext (ext_upd h1)
  have i1 := hi2 (intsL l.args)
  have i2 := hi2 (intsL l.args ++ if decide (l.fun_ ≥ 0) = true then [.int l.fun_] else [])
  ktf_call q_apif
  refine ⟨_, .int l.fun_, _, upd_self .., by simp [intsL]; lia, fun _ => ?_, upd_upd .., ?_⟩
  · ktf_call q_mm
    exact ⟨rfl, rfl⟩
  ktf_call q_apif
  refine ⟨_, .int l.var, _, upd_self .., ?_, fun _ => ?_, upd_upd .., ?_⟩
  · split <;> simp [intsL] <;> lia
  · ktf_call q_mm
    exact ⟨rfl, rfl⟩
  ktf_call q_mm
  have := q a h1
  unfold lastReads at this
  rw [intsL_append, intsL_append, ← List.append_assoc, intsIf, intsIf] at this
  simp only [decide_eq_true_eq]
  exact this

theorem lastTargets_spec (T : Facts B) {v : AVal} {l : LastR} {Q : AVal → AHeap → Prop} (hi : IsInst H v (T.fn 12) (lastF l)) (q : ∀ a, H a = none → Q (.ref a) (upd H a (some (.list (intsL (lastTargets l)))))) : CallM B (d + 1) (T.fn 12) "targets" [v] Q H := by
  refine me_start T 12 2 ["self"] (by decide) (by decide +kernel) (by ktf_call q_bind) (by decide +kernel) rfl ?_
  ktf_call q_z
  ktf_call q_s
  refine W_list ?_
  ktf_call q_mm
  refine ⟨by simp, fun a h1 => ?_⟩
  have hi2 : ∀ xs, IsInst (upd H a (some (.list xs))) v (T.fn 12) (lastF l) := fun xs => hi.ext (ext_upd h1)
  have i1 := hi2 []
  have i2 := hi2 ([] ++ if decide (l.to ≥ 0) = true then [.int l.to] else [])
  ktf_call q_apif
  refine ⟨_, .int l.to, _, upd_self .., by simp, fun _ => ?_, upd_upd .., ?_⟩
  · ktf_call q_mm
    exact ⟨rfl, rfl⟩
  ktf_call q_apif
  refine ⟨_, .int l.other, _, upd_self .., ?_, fun _ => ?_, upd_upd .., ?_⟩
  · split <;> simp [intsL] <;> lia
  · ktf_call q_mm
    exact ⟨rfl, rfl⟩
  ktf_call q_mm
  have := q a h1
  unfold lastTargets at this
  rw [intsL_append, intsIf, intsIf] at this
  simp only [decide_eq_true_eq, List.nil_append]
  exact this

theorem lastCopied_spec (T : Facts B) {v : AVal} {l : LastR} {Q : AVal → AHeap → Prop} (hi : IsInst H v (T.fn 12) (lastF l)) (ok : LastOK l)
    (q : ∀ a dx, a ≠ dx → H a = none → H dx = none → Q (.ref a) (upd (upd H dx (some (.shadow a))) a (some (.inst (T.fn 12) dx (lastF l))))) : CallM B (d + 3) (T.fn 12) "copied" [v] Q H := by
  refine me_start T 12 3 ["self"] (by decide) (by decide +kernel) (by ktf_call q_bind) (by decide +kernel) rfl ?_
  ktf_call q_z
  ktf_call q_mm
  refine last_new T fun a dx ne h1 h2 => ?_
  have hi2 : ∀ fs, IsInst (upd (upd H dx (some (.shadow a))) a (some (.inst (T.fn 12) dx fs))) v (T.fn 12) (lastF l) := fun fs => hi.ext (ext_new h1 h2)
  have i1 := hi2 (lastF ⟨l.word, -1, [], -1, -1, -1⟩)
  ktf_call q_mm
  have i2 := hi2 (lastF ⟨l.word, l.fun_, [], -1, -1, -1⟩)
  ktf_call q_mm
  refine ⟨_, .inl rfl, by have := ok.args; simp [intsL]; lia, ?_⟩
  ktf_call q_mm
  have i3 := hi2 (lastF ⟨l.word, l.fun_, l.args, -1, -1, -1⟩)
  ktf_call q_mm
  have i4 := hi2 (lastF ⟨l.word, l.fun_, l.args, l.to, -1, -1⟩)
  ktf_call q_mm
  have i5 := hi2 (lastF ⟨l.word, l.fun_, l.args, l.to, l.other, -1⟩)
  ktf_call q_mm
  exact q a dx ne h1 h2

theorem binders_spec (T : Facts B) {v ov lv : AVal} {k : Int} {r : RowR} {Q : AVal → AHeap → Prop} (hi : IsInst H v (T.fn 17) (blkF k r ov lv)) (hz : r.params.length ≤ 100) (q : ∀ a, H a = none → Q (.ref a) (upd H a (some (.list (intsL (blkBinders r)))))) : CallM B (d + 1) (T.fn 17) "binders" [v] Q H := by
  refine me_start T 17 1 ["self"] (by decide) (by decide +kernel) (by ktf_call q_bind) (by decide +kernel) rfl ?_
  ktf_call q_z
  ktf_call q_s
  refine W_listS T ?_ (by decide +kernel)
  ktf_call q_mm
  refine ⟨_, .inl rfl, by simp [intsL]; lia, fun a h1 => ?_⟩
  have hi2 : ∀ xs, IsInst (upd H a (some (.list xs))) v (T.fn 17) (blkF k r ov lv) := fun xs => hi.ext (ext_upd h1)
  have i1 := hi2 (intsL r.params)
  have i2 := hi2 (intsL r.params ++ if decide (r.rest ≥ 0) = true then [.int r.rest] else [])
  ktf_call q_apif
  refine ⟨_, .int r.rest, _, upd_self .., by simp [intsL]; lia, fun _ => ?_, upd_upd .., ?_⟩
  · ktf_call q_mm
    exact ⟨rfl, rfl⟩
  ktf_call q_apif
  refine ⟨_, .int r.var, _, upd_self .., ?_, fun _ => ?_, upd_upd .., ?_⟩
  · split <;> simp [intsL] <;> lia
  · ktf_call q_mm
    exact ⟨rfl, rfl⟩
  ktf_call q_mm
  have := q a h1
  unfold blkBinders at this
  rw [intsL_append, intsL_append, ← List.append_assoc, intsIf, intsIf] at this
  simp only [decide_eq_true_eq]
  exact this
end


/-! ## blocks and programs -/

inductive All2 {α β : Type} (R : α → β → Prop) : List α → List β → Prop
  | nil : All2 R [] []
  | cons {a b as bs} : R a b → All2 R as bs → All2 R (a :: as) (b :: bs)
namespace All2
variable {α β : Type} {R R' : α → β → Prop}
theorem length : ∀ {as : List α} {bs : List β}, All2 R as bs → as.length = bs.length
  | _, _, .nil => rfl
  | _, _, .cons _ h => by simp [length h]
theorem get {as : List α} {bs : List β} (h : All2 R as bs) {i : Nat} {a : α} (e : as[i]? = some a) : ∃ b, bs[i]? = some b ∧ R a b := by
  induction h generalizing i with
  | nil => simp at e
  | cons r _ ih =>
    cases i with
    | zero => simp at e; subst e; exact ⟨_, rfl, r⟩
    | succ i => exact ih (by simpa using e)
theorem imp (k : ∀ a b, R a b → R' a b) {as : List α} {bs : List β} (h : All2 R as bs) : All2 R' as bs := by
  induction h with
  | nil => exact .nil
  | cons r _ ih => exact .cons (k _ _ r) ih
theorem snoc {as : List α} {bs : List β} {a : α} {b : β} (h : All2 R as bs) (r : R a b) : All2 R (as ++ [a]) (bs ++ [b]) := by
  induction h with
  | nil => exact .cons r .nil
  | cons r' _ ih => exact .cons r' ih
theorem map {γ : Type} {f : γ → α} {g : γ → β} : ∀ {l : List γ}, (∀ x ∈ l, R (f x) (g x)) → All2 R (l.map f) (l.map g)
  | [], _ => .nil
  | x :: l, h => .cons (h x (.head _)) (map fun y hy => h y (.tail _ hy))
theorem append {as as' : List α} {bs bs' : List β} (h : All2 R as bs) (h' : All2 R as' bs') : All2 R (as ++ as') (bs ++ bs') := by
  induction h with
  | nil => exact h'
  | cons r _ ih => exact .cons r ih
end All2

theorem take_snoc {α : Type} {l : List α} {i : Nat} {x : α} (e : l[i]? = some x) : l.take (i + 1) = l.take i ++ [x] := by
  rw [List.take_add_one, e]; rfl

noncomputable def opDat (o : OpR) : AVal := if (o.word == "const") = true then .int 5 else .none

section
variable {B : Base} {H H' : AHeap} {d : Nat}

noncomputable def IsOp (T : Facts B) (H : AHeap) (v : AVal) (o : OpR) : Prop := IsInst H v (T.fn 8) (opF o (opDat o))
noncomputable def IsLast (T : Facts B) (H : AHeap) (v : AVal) (l : LastR) : Prop := IsInst H v (T.fn 12) (lastF l)
noncomputable def IsBlk (T : Facts B) (H : AHeap) (v : AVal) (k : Int) (r : RowR) : Prop := ∃ os lv, IsInst H v (T.fn 17) (blkF k r (.lst os) lv) ∧ All2 (IsOp T H) os r.ops ∧ IsLast T H lv r.last
noncomputable def IsTab (T : Facts B) (H : AHeap) (kvs : List (Int × AVal)) (rs : List (Int × RowR)) : Prop := All2 (fun p q => p.1 = q.1 ∧ IsBlk T H p.2 q.1 q.2) kvs rs
noncomputable def IsPrg (T : Facts B) (H : AHeap) (v : AVal) (rs : List (Int × RowR)) : Prop := ∃ tv kvs, IsInst H v (T.fn 18) [("table", tv), ("entry", .int 10)] ∧ IsDict H tv kvs ∧ IsTab T H kvs rs

noncomputable abbrev Ext (H H' : AHeap) : Prop := ∀ b, H b ≠ none → H' b = H b
theorem IsBlk.ext {T : Facts B} {v : AVal} {k : Int} {r : RowR} (h : IsBlk T H v k r) (e : Ext H H') : IsBlk T H' v k r :=
  let ⟨os, lv, a, b, c⟩ := h; ⟨os, lv, IsInst.ext a e, b.imp fun _ _ x => IsInst.ext x e, IsInst.ext c e⟩
theorem IsTab.ext {T : Facts B} {kvs : List (Int × AVal)} {rs : List (Int × RowR)} (h : IsTab T H kvs rs) (e : Ext H H') : IsTab T H' kvs rs := All2.imp (fun _ _ x => ⟨x.1, x.2.ext e⟩) h
theorem IsPrg.ext {T : Facts B} {v : AVal} {rs : List (Int × RowR)} (h : IsPrg T H v rs) (e : Ext H H') : IsPrg T H' v rs :=
  let ⟨tv, kvs, a, b, c⟩ := h; ⟨tv, kvs, a.ext e, b.ext e, c.ext e⟩

structure RowOK (r : RowR) : Prop where
  params : r.params.length ≤ 100
  ops : r.ops.length ≤ 100
  op : ∀ o ∈ r.ops, OpOK o
  last : LastOK r.last
structure RowsOK (rs : List (Int × RowR)) : Prop where
  len : rs.length ≤ 50
  asc : (rs.map (·.1)).Pairwise (· < ·)
  row : ∀ p ∈ rs, RowOK p.2

theorem flat_len {α : Type} {f : α → List Int} {n : Nat} : ∀ {l : List α}, (∀ x ∈ l, (f x).length ≤ n) → (l.flatMap f).length ≤ l.length * n
  | [], _ => by simp
  | x :: l, h => by
    have h1 := h x (.head _)
    have h2 := flat_len (l := l) fun y hy => h y (.tail _ hy)
    simp only [List.flatMap_cons, List.length_append, List.length_cons, Nat.succ_mul]
    lia
theorem opGiven_len {o : OpR} (ok : OpOK o) : (opGiven o).length ≤ 100 := by
  have := ok.results
  unfold opGiven
  split
  · exact this
  · split <;> simp
theorem blkBinders_len {r : RowR} (ok : r.params.length ≤ 100) : (blkBinders r).length ≤ 102 := by
  unfold blkBinders
  simp only [List.length_append]
  have h1 : (if r.rest ≥ 0 then [r.rest] else []).length ≤ 1 := by split <;> simp
  have h2 : (if r.var ≥ 0 then [r.var] else []).length ≤ 1 := by split <;> simp
  lia

theorem blkGiven_spec (T : Facts B) {v : AVal} {k : Int} {r : RowR} {Q : AVal → AHeap → Prop} (hb : IsBlk T H v k r) (ok : RowOK r) (q : ∀ a, H a = none → Q (.ref a) (upd H a (some (.list (intsL (blkGiven r)))))) : CallM B (d + 2) (T.fn 17) "given" [v] Q H := by
  refine me_start T 17 2 ["self"] (by decide) (by decide +kernel) (by ktf_call q_bind) (by decide +kernel) rfl ?_
  obtain ⟨os, lv, hi, ho, hl⟩ := hb
  ktf_call q_z
  ktf_call q_mm
  refine ⟨T.fn 17, _, hi, by rfl, Facts.mt T 17 _ (by decide +kernel), ?_⟩
  ktf_call q_mm
  refine binders_spec T hi ok.params fun a h1 => ?_
  have hi2 : ∀ xs, IsInst (upd H a (some (.list xs))) v (T.fn 17) (blkF k r (.lst os) lv) := fun xs => hi.ext (ext_upd h1)
  ktf_call q_mm
  refine W1_forF (fun i H' => H' = upd H a (some (.list (intsL (blkBinders r ++ (r.ops.take i).flatMap opGiven))))) (fun y => [("self", v), ("found", .ref a), ("op", y)]) (by decide +kernel) (by intro y; ktf_call q_lsetk) (by intro _ _; rfl) ?_
  have i1 := hi2 (intsL (blkBinders r))
  ktf_call q_mm
  refine ⟨os, .inl rfl, by simp, fun i y H₂ hy e => ?_, fun H₂ e => ?_⟩
  · subst e
    obtain ⟨o, e1, ho1⟩ := ho.get hy
    have ho2 : IsInst (upd H a (some (.list (intsL (blkBinders r ++ (r.ops.take i).flatMap opGiven))))) y (T.fn 8) (opF o (opDat o)) := IsInst.ext ho1 (ext_upd h1)
    have oko := ok.op o (List.mem_of_getElem? e1)
    refine WS_cons ?_
    ktf_call q_mm
    refine ⟨a, _, rfl, upd_self .., ?_⟩
    ktf_call q_mm
    refine ⟨T.fn 8, _, ho2, by rfl, Facts.mt T 8 _ (by decide +kernel), ?_⟩
    ktf_call q_mm
    refine opGiven_spec (d := d) T ho2 oko ?_
    have hlen : ((r.ops.take i).flatMap opGiven).length ≤ (r.ops.take i).length * 100 := flat_len fun x hx => opGiven_len (ok.op x (List.mem_of_mem_take hx))
    have hlen2 : (r.ops.take i).length ≤ 100 := Nat.le_trans (by simp; lia) ok.ops
    refine ⟨_, _, upd_self .., .inl rfl, ?_, rfl, ?_⟩
    · have h1 := blkBinders_len ok.params
      have h2 := opGiven_len oko
      simp only [intsL_len, List.length_append]
      have : (r.ops.take i).length * 100 ≤ 100 * 100 := Nat.mul_le_mul_right _ hlen2
      lia
    ktf_call q_mm
    rw [upd_upd, take_snoc e1, List.flatMap_append, ← intsL_append, List.append_assoc]
    simp
  · subst e
    ktf_call q_mm
    rw [ho.length, List.take_length]
    exact q a h1
end


section
variable {B : Base} {H H' : AHeap} {d : Nat}

theorem prog_new (T : Facts B) {e : Int} {Q : AVal → AHeap → Prop}
    (q : ∀ p dx t, p ≠ dx → t ≠ p → t ≠ dx → H p = none → H dx = none → H t = none → Q (.ref p) (upd (upd (upd H dx (some (.shadow p))) p (some (.inst (T.fn 18) dx [("table", .ref t), ("entry", .int e)]))) t (some (.dict [])))) :
    CallG B (d + 2) "KProgram" [.int e] Q H := by
  refine cl_start T 18 ["self", "entry"] (by decide) (by decide +kernel) (by ktf_call q_bind) (by decide +kernel) rfl fun p dx ne h1 h2 => ?_
  ktf_call q_z
  ktf_call q_s
  refine W_dict0 fun t ht => ?_
  have tp : t ≠ p := fun z => by rw [z, upd_self] at ht; cases ht
  have td : t ≠ dx := fun z => by rw [z, upd_ne _ _ (Ne.symm ne), upd_self] at ht; cases ht
  have h3 : H t = none := by rwa [upd_ne _ _ tp, upd_ne _ _ td] at ht
  ktf_call q_mm
  have sw : ∀ (i j : Option AObj) (G : AHeap), upd (upd (upd G p i) t (some (.dict []))) p j = upd (upd G p j) t (some (.dict [])) := fun i j G => by
    funext b
    by_cases hb : b = p
    · subst hb; rw [upd_self, upd_ne _ _ (Ne.symm tp), upd_self]
    · rw [upd_ne _ _ hb]
      by_cases hb' : b = t
      · subst hb'; rw [upd_self, upd_self]
      · rw [upd_ne _ _ hb', upd_ne _ _ hb', upd_ne _ _ hb, upd_ne _ _ hb]
  refine U2_setattr' (fs' := [("table", .ref t)]) (dx := dx) (C := T.fn 18) (fs := []) (Facts.fd T 18 _ (by decide +kernel)) (by rw [upd_ne _ _ (Ne.symm tp), upd_self]) (by decide) (by ktf_call q_lsetk) ?_
  rw [sw]
  ktf_call q_mm
  refine U2_setattr' (fs' := [("table", .ref t), ("entry", .int e)]) (dx := dx) (C := T.fn 18) (fs := [("table", .ref t)]) (Facts.fd T 18 _ (by decide +kernel)) (by rw [upd_ne _ _ (Ne.symm tp), upd_self]) (by simp) (by ktf_call q_lsetk) ?_
  rw [sw]
  ktf_call q_mm
  exact ⟨rfl, q p dx t ne tp td h1 h2 h3⟩

theorem labels_spec (T : Facts B) {v tv ev : AVal} {kvs : List (Int × AVal)} {Q : AVal → AHeap → Prop} (hi : IsInst H v (T.fn 18) [("table", tv), ("entry", ev)]) (hd : IsDict H tv kvs) (hz : kvs.length < 64) (q : Q (.lst (intsL (sortZ (kvs.map (·.1))))) H) :
    CallM B (d + 1) (T.fn 18) "labels" [v] Q H := by
  refine me_start T 18 1 ["self"] (by decide) (by decide +kernel) (by ktf_call q_bind) (by decide +kernel) rfl ?_
  ktf_call q_z
  ktf_call q_mm
  refine ⟨kvs, hd, hz, ?_⟩
  ktf_call q_mm
  exact q

theorem block_spec (T : Facts B) {v tv ev b : AVal} {k : Int} {kvs : List (Int × AVal)} {Q : AVal → AHeap → Prop} (hi : IsInst H v (T.fn 18) [("table", tv), ("entry", ev)]) (hd : IsDict H tv kvs) (hk : dget kvs k = some b) (q : Q b H) :
    CallM B (d + 1) (T.fn 18) "block" [v, .int k] Q H := by
  refine me_start T 18 2 ["self", "label"] (by decide) (by decide +kernel) (by ktf_call q_bind) (by decide +kernel) rfl ?_
  ktf_call q_z
  ktf_call q_mm
  refine ⟨b, .inl ⟨kvs, k, hd, rfl, hk⟩, ?_⟩
  ktf_call q_mm
  exact q

theorem put_spec (T : Facts B) {v ev b : AVal} {t : Addr} {k : Int} {r : RowR} {ov lv : AVal} {kvs : List (Int × AVal)} {Q : AVal → AHeap → Prop} (hi : IsInst H v (T.fn 18) [("table", .ref t), ("entry", ev)]) (hd : H t = some (.dict kvs)) (hz : kvs.length ≤ 1000)
    (hb : IsInst H b (T.fn 17) (blkF k r ov lv)) (q : Q .none (upd H t (some (.dict (dset kvs k b))))) : CallM B (d + 1) (T.fn 18) "put" [v, b] Q H := by
  refine me_start T 18 3 ["self", "block"] (by decide) (by decide +kernel) (by ktf_call q_bind) (by decide +kernel) rfl ?_
  ktf_call q_z
  ktf_call q_mm
  refine U3_setD hd (by lia) ?_
  ktf_call q_mm
  exact q

theorem dget_of : ∀ {kvs : List (Int × AVal)} {i : Nat} {k : Int} {v : AVal}, (kvs.map (·.1)).Nodup → kvs[i]? = some (k, v) → dget kvs k = some v
  | [], i, k, v, _, e => by simp at e
  | (j, u) :: r, 0, k, v, _, e => by simp at e; obtain ⟨rfl, rfl⟩ := e; simp [dget]
  | (j, u) :: r, i + 1, k, v, nd, e => by
    obtain ⟨n1, n2⟩ := List.nodup_cons.mp (by simpa using nd : (j :: r.map (·.1)).Nodup)
    have hm : k ∈ r.map (·.1) := List.mem_map.mpr ⟨(k, v), List.mem_of_getElem? (by simpa using e), rfl⟩
    have : ¬ k = j := fun z => n1 (z ▸ hm)
    simp only [dget, if_neg this]
    exact dget_of n2 (by simpa using e)
theorem asc_nodup {l : List Int} (h : l.Pairwise (· < ·)) : l.Nodup := h.imp fun h => by lia
theorem asc_le {l : List Int} (h : l.Pairwise (· < ·)) : l.Pairwise (· ≤ ·) := h.imp fun h => by lia

theorem IsTab.keys {T : Facts B} {kvs : List (Int × AVal)} {rs : List (Int × RowR)} (h : IsTab T H kvs rs) : kvs.map (·.1) = rs.map (·.1) := by
  induction h with
  | nil => rfl
  | cons r _ ih => simp only [List.map_cons, r.1, ih]
theorem IsTab.at_ {T : Facts B} {kvs : List (Int × AVal)} {rs : List (Int × RowR)} (h : IsTab T H kvs rs) (ok : RowsOK rs) {i : Nat} {k : Int} {r : RowR} (e : rs[i]? = some (k, r)) : ∃ b, dget kvs k = some b ∧ IsBlk T H b k r := by
  have hl := All2.length h
  have hi : i < kvs.length := by rw [hl]; exact (List.getElem?_eq_some_iff.mp e).1
  obtain ⟨q, e1, e2, e3⟩ := All2.get h (i := i) (a := kvs[i]) (by simp [hi])
  rw [e] at e1; cases e1
  refine ⟨kvs[i].2, dget_of (i := i) (by rw [IsTab.keys h]; exact asc_nodup ok.asc) ?_, e3⟩
  have e2' : kvs[i].1 = k := e2
  rw [← e2']; simp [hi]

theorem prgLabels_spec (T : Facts B) {v : AVal} {rs : List (Int × RowR)} {Q : AVal → AHeap → Prop} (hp : IsPrg T H v rs) (ok : RowsOK rs) (q : Q (.lst (intsL (rs.map (·.1)))) H) : CallM B (d + 1) (T.fn 18) "labels" [v] Q H := by
  obtain ⟨tv, kvs, a, b, c⟩ := hp
  refine labels_spec T a b (by rw [All2.length c]; have := ok.len; lia) ?_
  rw [IsTab.keys c, sortZ_id (asc_le ok.asc)]; exact q
theorem prgBlock_spec (T : Facts B) {v : AVal} {rs : List (Int × RowR)} {i : Nat} {k : Int} {r : RowR} {Q : AVal → AHeap → Prop} (hp : IsPrg T H v rs) (ok : RowsOK rs) (e : rs[i]? = some (k, r)) (q : ∀ b, IsBlk T H b k r → Q b H) : CallM B (d + 1) (T.fn 18) "block" [v, .int k] Q H := by
  obtain ⟨tv, kvs, a, b, c⟩ := hp
  obtain ⟨bv, e1, e2⟩ := c.at_ ok e
  exact block_spec T a b e1 (q bv e2)

/-! ## ends -/

theorem callLast_spec (T : Facts B) {f to var : Int} {as : List Int} {Q : AVal → AHeap → Prop} (hz : as.length ≤ 100) (q : Q (lastV T ⟨"call", f, as, to, -1, var⟩) H) : CallG B (d + 3) "call_last" [.int f, .lst (intsL as), .int to, .int var] Q H := by
  refine CallG.freeze (fn_start T 13 ["fun", "args", "to", "var"] (by decide) (by decide +kernel) (by ktf_call q_bind) (by decide +kernel) rfl ?_)
  ktf_call q_z
  ktf_call q_mm
  refine last_new T fun a dx ne h1 h2 => ?_
  ktf_call q_mm
  refine ⟨_, .inl rfl, by simp [intsL]; lia, ?_⟩
  ktf_call q_mm
  exact froze_inst ne h1 h2 q
theorem jumpLast_spec (T : Facts B) {to : Int} {as : List Int} {Q : AVal → AHeap → Prop} (hz : as.length ≤ 100) (q : Q (lastV T ⟨"jump", -1, as, to, -1, -1⟩) H) : CallG B (d + 3) "jump_last" [.int to, .lst (intsL as)] Q H := by
  refine CallG.freeze (fn_start T 14 ["to", "args"] (by decide) (by decide +kernel) (by ktf_call q_bind) (by decide +kernel) rfl ?_)
  ktf_call q_z
  ktf_call q_mm
  refine last_new T fun a dx ne h1 h2 => ?_
  ktf_call q_mm
  refine ⟨_, .inl rfl, by simp [intsL]; lia, ?_⟩
  ktf_call q_mm
  exact froze_inst ne h1 h2 q
theorem giveLast_spec (T : Facts B) {var : Int} {as : List Int} {Q : AVal → AHeap → Prop} (hz : as.length ≤ 100) (q : Q (lastV T ⟨"give", -1, as, -1, -1, var⟩) H) : CallG B (d + 3) "give_last" [.int var, .lst (intsL as)] Q H := by
  refine CallG.freeze (fn_start T 15 ["var", "args"] (by decide) (by decide +kernel) (by ktf_call q_bind) (by decide +kernel) rfl ?_)
  ktf_call q_z
  ktf_call q_mm
  refine last_new T fun a dx ne h1 h2 => ?_
  ktf_call q_mm
  refine ⟨_, .inl rfl, by simp [intsL]; lia, ?_⟩
  ktf_call q_mm
  exact froze_inst ne h1 h2 q
theorem branchLast_spec (T : Facts B) {t y n : Int} {Q : AVal → AHeap → Prop} (q : Q (lastV T ⟨"if", t, [], y, n, -1⟩) H) : CallG B (d + 3) "branch_last" [.int t, .int y, .int n] Q H := by
  refine CallG.freeze (fn_start T 16 ["test", "yes", "no"] (by decide) (by decide +kernel) (by ktf_call q_bind) (by decide +kernel) rfl ?_)
  ktf_call q_z
  ktf_call q_mm
  refine last_new T fun a dx ne h1 h2 => ?_
  ktf_call q_mm
  exact froze_inst ne h1 h2 q

theorem block_new (T : Facts B) {k rest : Int} {sort : Str} {ps : List Int} {Q : AVal → AHeap → Prop}
    (q : ∀ a dx, a ≠ dx → H a = none → H dx = none → Q (.ref a) (upd (upd H dx (some (.shadow a))) a (some (.inst (T.fn 17) dx (blkF k ⟨sort, ps, rest, -1, -1, [], ⟨"", -1, [], -1, -1, -1⟩⟩ (.lst []) .none))))) :
    CallG B (d + 2) "KBlock" [.int k, .str sort, .lst (intsL ps), .int rest] Q H := by
  refine cl_start T 17 ["self", "label", "sort", "params", "rest"] (by decide) (by decide +kernel) (by ktf_call q_bind) (by decide +kernel) rfl fun a dx ne h1 h2 => ?_
  ktf_call q_z
  ktf_call q_mm
  refine W_lst ?_
  ktf_call q_mm
  refine ⟨by decide, ?_⟩
  ktf_call q_mm
  exact ⟨rfl, q a dx ne h1 h2⟩
end


/-! ## the objects made of the rows -/

noncomputable def OpWF (o : OpR) : Prop :=
  (o.word = "const" ∧ o.number = -1 ∧ o.args = [] ∧ o.results = [] ∧ o.labels = []) ∨ (o.word = "fun" ∧ o.number = -1 ∧ o.args = [] ∧ o.results = [] ∧ ∃ l, o.labels = [l]) ∨
  (o.word = "fix" ∧ o.result = -1 ∧ o.number = -1 ∧ o.args = []) ∨ ((o.word = "prim" ∨ o.word = "global") ∧ o.results = [] ∧ o.labels = [])
noncomputable def LastWF (l : LastR) : Prop :=
  (l.word = "call" ∧ l.other = -1) ∨ (l.word = "jump" ∧ l.fun_ = -1 ∧ l.other = -1 ∧ l.var = -1) ∨ (l.word = "give" ∧ l.fun_ = -1 ∧ l.to = -1 ∧ l.other = -1) ∨ (l.word = "if" ∧ l.args = [] ∧ l.var = -1)

section
variable {B : Base} {H H' : AHeap} {d : Nat}

noncomputable abbrev opVd (T : Facts B) (o : OpR) : AVal := opV T o (opDat o)
noncomputable abbrev blkV (T : Facts B) (k : Int) (r : RowR) : AVal := .obj (T.fn 17) (blkF k r (.lst (r.ops.map (opVd T))) (lastV T r.last))
noncomputable abbrev prgV (T : Facts B) (rs : List (Int × RowR)) : AVal := .obj (T.fn 18) [("table", .dct (rs.map fun p => (p.1, blkV T p.1 p.2))), ("entry", .int 10)]

theorem madeOp_spec (T : Facts B) {o : OpR} {Q : AVal → AHeap → Prop} (wf : OpWF o) (ok : OpOK o) (q : Q (opVd T o) H) : CallG B (d + 4) "_law_made_op" [opT o] Q H := by
  refine fn_start T 35 ["row"] (by decide) (by decide +kernel) (by ktf_call q_bind) (by decide +kernel) rfl ?_
  obtain ⟨word, result, number, args, results, labels⟩ := o
  ktf_call q_z
  rcases wf with ⟨e1, e2, e3, e4, e5⟩ | ⟨e1, e2, e3, e4, l, e5⟩ | ⟨e1, e2, e3, e4⟩ | ⟨e1, e4, e5⟩
  · dsimp only at e1 e2 e3 e4 e5
    subst e1 e2 e3 e4 e5
    ktf_call q_mm
    refine ⟨fun _ => ?_, by ktf_call q_abs⟩
    ktf_call q_mm
    refine const_spec (d := d) T ?_
    ktf_call q_mm
    exact q
  · dsimp only at e1 e2 e3 e4 e5
    subst e1 e2 e3 e4 e5
    ktf_call q_mm
    refine ⟨by ktf_call q_abs, fun _ => ?_⟩
    ktf_call q_mm
    refine ⟨fun _ => ?_, by ktf_call q_abs⟩
    ktf_call q_mm
    refine ⟨_, .inr ⟨_, 0, .inl (.inl rfl), rfl, by decide, rfl⟩, ?_⟩
    ktf_call q_mm
    refine fun_spec (d := d) T ?_
    ktf_call q_mm
    exact q
  · dsimp only at e1 e2 e3 e4
    subst e1 e2 e3 e4
    ktf_call q_mm
    refine ⟨by ktf_call q_abs, fun _ => ?_⟩
    ktf_call q_mm
    refine ⟨by ktf_call q_abs, fun _ => ?_⟩
    ktf_call q_mm
    refine W_if ?_
    ktf_call q_mm
    refine ⟨fun _ => ?_, by ktf_call q_abs⟩
    ktf_call q_mm
    refine fix_spec (d := d) T ok.results ok.labels ?_
    ktf_call q_mm
    exact q
  · dsimp only at e1 e4 e5
    subst e4 e5
    have n1 : (word == "const") = false := by rcases e1 with rfl | rfl <;> decide +kernel
    have n2 : (word == "fun") = false := by rcases e1 with rfl | rfl <;> decide +kernel
    have n3 : (word == "fix") = false := by rcases e1 with rfl | rfl <;> decide +kernel
    ktf_call q_mm
    refine ⟨fun hc => absurd hc (by rw [n1]; decide), fun _ => ?_⟩
    ktf_call q_mm
    refine ⟨fun hc => absurd hc (by rw [n2]; decide), fun _ => ?_⟩
    ktf_call q_mm
    refine W_if ?_
    ktf_call q_mm
    refine ⟨fun hc => absurd hc (by rw [n3]; decide), fun _ => ?_⟩
    refine W_freeze ?_
    ktf_call q_mm
    refine ⟨_, .inl rfl, by have := ok.args; dsimp only at this; simp [intsL]; lia, ?_⟩
    ktf_call q_mm
    refine op_new (as := args) T fun a dx ne h1 h2 => ?_
    refine froze_inst ne h1 h2 ?_
    ktf_call q_mm
    have ed : opDat ⟨word, result, number, args, [], []⟩ = .none := by unfold opDat; rw [n1]; rfl
    unfold opVd at q
    rw [ed] at q
    exact q

theorem madeLast_spec (T : Facts B) {l : LastR} {Q : AVal → AHeap → Prop} (wf : LastWF l) (ok : LastOK l) (q : Q (lastV T l) H) : CallG B (d + 4) "_law_made_last" [lastT l] Q H := by
  refine fn_start T 36 ["row"] (by decide) (by decide +kernel) (by ktf_call q_bind) (by decide +kernel) rfl ?_
  obtain ⟨word, fun_, args, to, other, var⟩ := l
  have hz := ok.args
  dsimp only at hz
  ktf_call q_z
  rcases wf with ⟨e1, e2⟩ | ⟨e1, e2, e3, e4⟩ | ⟨e1, e2, e3, e4⟩ | ⟨e1, e2, e3⟩
  · dsimp only at e1 e2
    subst e1 e2
    ktf_call q_mm
    refine ⟨fun _ => ?_, by ktf_call q_abs⟩
    ktf_call q_mm
    refine callLast_spec (d := d) T hz ?_
    ktf_call q_mm
    exact q
  · dsimp only at e1 e2 e3 e4
    subst e1 e2 e3 e4
    ktf_call q_mm
    refine ⟨by ktf_call q_abs, fun _ => ?_⟩
    ktf_call q_mm
    refine ⟨fun _ => ?_, by ktf_call q_abs⟩
    ktf_call q_mm
    refine jumpLast_spec (d := d) T hz ?_
    ktf_call q_mm
    exact q
  · dsimp only at e1 e2 e3 e4
    subst e1 e2 e3 e4
    ktf_call q_mm
    refine ⟨by ktf_call q_abs, fun _ => ?_⟩
    ktf_call q_mm
    refine ⟨by ktf_call q_abs, fun _ => ?_⟩
    ktf_call q_mm
    refine W_if ?_
    ktf_call q_mm
    refine ⟨fun _ => ?_, by ktf_call q_abs⟩
    ktf_call q_mm
    refine giveLast_spec (d := d) T hz ?_
    ktf_call q_mm
    exact q
  · dsimp only at e1 e2 e3
    subst e1 e2 e3
    ktf_call q_mm
    refine ⟨by ktf_call q_abs, fun _ => ?_⟩
    ktf_call q_mm
    refine ⟨by ktf_call q_abs, fun _ => ?_⟩
    ktf_call q_mm
    refine W_if ?_
    ktf_call q_mm
    refine ⟨by ktf_call q_abs, fun _ => ?_⟩
    ktf_call q_mm
    refine branchLast_spec (d := d) T ?_
    ktf_call q_mm
    exact q
end


structure RowWF (r : RowR) : Prop where
  sort : r.sort = "fun" ∨ r.sort = "cont"
  op : ∀ o ∈ r.ops, OpWF o
  last : LastWF r.last

theorem swapped_attr2 {o1 o2 : Expr} {n1 n2 : Str} {p1 p2 tp p' : Pos} {k k' : Nat} {vs : List Expr} (env : Env) : swappedStores [.Tuple [.Attribute o1 n1 p1, .Attribute o2 n2 p2] k tp] (.Tuple vs k' p') env = pure none := by
  unfold swappedStores
  dsimp only
  split
  · rfl
  · split
    · rfl
    · rfl

theorem dset_new : ∀ {kvs : List (Int × AVal)} {k : Int} {v : AVal}, k ∉ kvs.map (·.1) → dset kvs k v = kvs ++ [(k, v)]
  | [], k, v, _ => rfl
  | (j, u) :: r, k, v, h => by
    have : ¬ k = j := fun z => h (by rw [z]; simp)
    simp only [dset, if_neg this, List.cons_append]
    rw [dset_new fun z => h (by simp at z ⊢; exact .inr z)]

theorem asc_take {l : List Int} (h : l.Nodup) {i : Nat} {k : Int} (e : l[i]? = some k) : k ∉ l.take i := fun hm => by
  obtain ⟨j, hj⟩ := List.getElem?_of_mem hm
  rw [List.getElem?_take] at hj
  split at hj
  · rename_i hlt
    have hi := (List.getElem?_eq_some_iff.mp e).1
    have hj' := (List.getElem?_eq_some_iff.mp hj).1
    have := (List.getElem?_inj hj' h).mp (hj.trans e.symm)
    lia
  · cases hj

theorem key_at {rs : List (Int × RowR)} {i : Nat} {y : AVal} (e : (intsL (rs.map (·.1)))[i]? = some y) : ∃ k r, y = .int k ∧ rs[i]? = some (k, r) := by
  unfold intsL at e
  rw [List.getElem?_map, List.getElem?_map] at e
  cases q : rs[i]? with
  | none => rw [q] at e; simp at e
  | some p => rw [q] at e; simp at e; exact ⟨p.1, p.2, e.symm, rfl⟩
theorem rows_keys {f : RowR → AVal} {rs : List (Int × RowR)} : (rs.map fun p => (p.1, f p.2)).map (·.1) = rs.map (·.1) := by simp
theorem rows_dget {f : Int → RowR → AVal} {rs : List (Int × RowR)} (ok : RowsOK rs) {i : Nat} {k : Int} {r : RowR} (e : rs[i]? = some (k, r)) : dget (rs.map fun p => (p.1, f p.1 p.2)) k = some (f k r) := by
  have hk : (rs.map fun p => (p.1, f p.1 p.2)).map (·.1) = rs.map (·.1) := by simp
  refine dget_of (i := i) (by rw [hk]; exact asc_nodup ok.asc) ?_
  rw [List.getElem?_map, e]; rfl

section
variable {B : Base} {H H' : AHeap} {d : Nat}

theorem froze_prog {p dx t C : Addr} {n : Str} {fs : List (Str × AVal)} {kvs : List (Int × AVal)} {o : Option AObj} (n1 : p ≠ dx) (n2 : t ≠ p) (n3 : t ≠ dx) (h1 : H p = none) (h2 : H dx = none) (h3 : H t = none) {Q : AVal → AHeap → Prop} (q : Q (.obj C ((n, .dct kvs) :: fs)) H) :
    FrozeQ Q (.ref p) (upd (upd (upd H dx o) p (some (.inst C dx ((n, .ref t) :: fs)))) t (some (.dict kvs))) := by
  refine ⟨_, _, .trans (.field (by rw [upd_ne _ _ (Ne.symm n2), upd_self]) (upd_self ..)) (.inst (upd_self ..)), ?_⟩
  have : ∀ (i j : Option AObj), upd (upd (upd (upd (upd (upd (upd H dx o) p i) t (some (.dict kvs))) t none) p j) p none) dx none = H := fun i j => by
    funext b
    by_cases hb : b = dx
    · subst hb; rw [upd_self, h2]
    · rw [upd_ne _ _ hb]
      by_cases hp : b = p
      · subst hp; rw [upd_self, h1]
      · rw [upd_ne _ _ hp, upd_ne _ _ hp]
        by_cases ht : b = t
        · subst ht; rw [upd_self, h3]
        · rw [upd_ne _ _ ht, upd_ne _ _ ht, upd_ne _ _ hp, upd_ne _ _ hb]
  rw [this]; exact q

theorem made_spec (T : Facts B) {rs : List (Int × RowR)} {Q : AVal → AHeap → Prop} (ok : RowsOK rs) (wf : ∀ p ∈ rs, RowWF p.2) (q : Q (prgV T rs) H) : CallG B (d + 5) "_law_made" [rowsT rs] Q H := by
  refine CallG.freeze (fn_start T 37 ["rows"] (by decide) (by decide +kernel) (by ktf_call q_bind) (by decide +kernel) rfl ?_)
  ktf_call q_z
  ktf_call q_mm
  refine prog_new T fun p dx t n1 n2 n3 h1 h2 h3 => ?_
  ktf_call q_mm
  let G : Nat → AHeap := fun i => upd (upd (upd H dx (some (.shadow p))) p (some (.inst (T.fn 18) dx [("table", .ref t), ("entry", .int 10)]))) t (some (.dict ((rs.take i).map fun p => (p.1, blkV T p.1 p.2))))
  refine W1_forF (fun i H' => H' = G i) (fun y => [("rows", rowsT rs), ("program", .ref p), ("label", y)]) (by decide +kernel) (by intro y; ktf_call q_lsetk) (by intro _ _; rfl) ?_
  ktf_call q_mm
  refine ⟨_, .inl rfl, by have := ok.len; simp; lia, ?_⟩
  rw [rows_keys, sortZ_id (asc_le ok.asc)]
  refine ⟨_, .inl rfl, rfl, fun i y H₂ hy e => ?_, fun H₂ e => ?_⟩
  · subst e
    obtain ⟨k, r, rfl, hr⟩ := key_at hy
    have rok := ok.row _ (List.mem_of_getElem? hr)
    have rwf := wf _ (List.mem_of_getElem? hr)
    refine WS_cons ?_
    ktf_call q_mm
    refine ⟨_, .inl ⟨_, k, .inl rfl, rfl, rows_dget (f := fun _ r => rowT r) ok hr⟩, ?_⟩
    ktf_call q_mm
    refine W_mono (Q := fun x H₁ => x = .str r.sort ∧ H₁ = G i) (W_if ?_) ?_
    · ktf_call q_mm
      refine ⟨fun hc => ?_, fun hc => ?_⟩
      · have : r.sort = "fun" := beq_iff_eq.mp hc
        rw [this]
        ktf_call q_mm
        exact ⟨rfl, rfl⟩
      · have : r.sort = "cont" := rwf.sort.resolve_left fun z => by rw [z] at hc; exact absurd hc (by decide +kernel)
        rw [this]
        ktf_call q_mm
        exact ⟨rfl, rfl⟩
    rintro x H₁ ⟨rfl, rfl⟩
    ktf_call q_mm
    refine ⟨_, .inl rfl, by have := rok.params; dsimp only at this; simp [intsL]; lia, ?_⟩
    ktf_call q_mm
    refine block_new (d := d + 2) T fun a dxb m1 m2 m3 => ?_
    ktf_call q_mm
    refine W1_assign ?_ (by intro _ _; rfl) (fun env _ => swapped_attr2 env) (by intro _; rfl)
    ktf_call q_mm
    refine ⟨by simp, ?_⟩
    ktf_call q_mm
    refine W1_assign ?_ (by intro _ _; rfl) (fun env _ => swapped_attr2 env) (by intro _; rfl)
    ktf_call q_mm
    refine W_comp1 (fun y => [("row", y)]) (by decide +kernel) (by decide +kernel) (by intro _ _; rfl) ?_
    ktf_call q_mm
    have okr : ∀ o ∈ r.ops, OpOK o ∧ OpWF o := fun o ho => ⟨rok.op o ho, rwf.op o ho⟩
    have hz := rok.ops
    dsimp only at hz
    refine Comp1.same _ (r.ops.map (opVd T)) [] (.inl rfl) (by simp) (by simp; lia) (Sub.nil _) (fun _ hp => nomatch hp) (fun y => rfl) (fun y => Sub.nil _) (fun j y z hy hz => ?_) ?_
    · rw [List.getElem?_map] at hy hz
      cases ho : r.ops[j]? with
      | none => rw [ho] at hy; cases hy
      | some o =>
        rw [ho] at hy hz; cases hy; cases hz
        have := okr o (List.mem_of_getElem? ho)
        ktf_call q_mm
        exact madeOp_spec (d := d) T this.2 this.1 ⟨rfl, rfl⟩
    ktf_call q_mm
    refine madeLast_spec (d := d) T rwf.last rok.last ?_
    ktf_call q_mm
    refine ⟨by simp, ?_⟩
    iterate 10 ktf_call q_m
    show WS B _ _ _ _ _ _
    refine WS_freezeNew (x := "block") (ρ' := [("rows", rowsT rs), ("program", .ref p), ("label", .int k), ("sort", .str r.sort), ("params", .lst (intsL r.params)), ("rest", .int r.rest), ("var", .int r.var), ("parent", .int r.parent), ("ops", .lst (r.ops.map opT)), ("last", lastT r.last), ("block", blkV T k r)]) m1 m2 m3 (by ktf_call q_lget) (by ktf_call q_lsetk) ?_
    refine WS_cons ?_
    ktf_call q_mm
    have ip : IsInst (G i) (.ref p) (T.fn 18) [("table", .ref t), ("entry", .int 10)] := .inr ⟨p, dx, rfl, by show upd _ _ _ _ = _; rw [upd_ne _ _ (Ne.symm n2), upd_self]⟩
    refine ⟨T.fn 18, _, ip, by rfl, Facts.mt T 18 _ (by decide +kernel), ?_⟩
    ktf_call q_mm
    have hlen : ((rs.take i).map fun p => (p.1, blkV T p.1 p.2)).length ≤ 1000 := by have := ok.len; simp; lia
    refine put_spec (d := d + 3) T ip (upd_self ..) hlen (.inl rfl) ⟨rfl, ?_⟩
    ktf_call q_mm
    have hn : k ∉ ((rs.take i).map fun p => (p.1, blkV T p.1 p.2)).map (·.1) := by
      have := asc_take (l := rs.map (·.1)) (asc_nodup ok.asc) (i := i) (k := k) (by rw [List.getElem?_map, hr]; rfl)
      rw [List.map_map]
      rw [← List.map_take] at this
      exact this
    show upd (G i) t _ = G (i + 1)
    rw [dset_new hn]
    show upd (upd _ t _) t _ = upd _ t _
    rw [upd_upd, take_snoc hr, List.map_append]; rfl
  · subst e
    ktf_call q_mm
    show FrozeQ Q (.ref p) (G _)
    have e : (intsL (rs.map (·.1))).length = rs.length := by simp [intsL]
    rw [e]
    refine froze_prog n1 n2 n3 h1 h2 h3 ?_
    rw [List.take_length]; exact q
end


section
variable {B : Base} {H H' : AHeap} {d : Nat}

theorem told_spec (T : Facts B) {v : AVal} {rs : List (Int × RowR)} {Q : AVal → AHeap → Prop} (hp : IsPrg T H v rs) (ok : RowsOK rs) (q : Q (rowsT rs) H) : CallG B (d + 2) "_law_told" [v] Q H := by
  refine CallG.freeze (fn_start T 38 ["program"] (by decide) (by decide +kernel) (by ktf_call q_bind) (by decide +kernel) rfl ?_)
  ktf_call q_z
  ktf_call q_s
  refine W_dict0 fun a h1 => ?_
  ktf_call q_mm
  refine W1_forF (fun i H' => H' = upd H a (some (.dict ((rs.take i).map fun p => (p.1, rowT p.2))))) (fun y => [("program", v), ("found", .ref a), ("label", y)]) (by decide +kernel) (by intro y; ktf_call q_lsetk) (by intro _ _; rfl) ?_
  have hp2 : ∀ ob, IsPrg T (upd H a ob) v rs := fun ob => hp.ext (ext_upd h1)
  have cls : ∀ ob, ∃ fs, IsInst (upd H a ob) v (T.fn 18) fs ∧ ∀ x : Str, x ≠ "table" → x ≠ "entry" → lget fs x = none := fun ob => by
    obtain ⟨tv, kvs, i, _⟩ := hp2 ob
    exact ⟨_, i, fun x a b => by simp [lget, a, b]⟩
  ktf_call q_mm
  obtain ⟨fs, ifs, hfs⟩ := cls (some (.dict []))
  refine ⟨T.fn 18, fs, ifs, hfs _ (by decide +kernel) (by decide +kernel), Facts.mt T 18 _ (by decide +kernel), ?_⟩
  ktf_call q_mm
  refine prgLabels_spec (d := d) T (hp2 _) ok ?_
  refine ⟨_, .inl rfl, rfl, fun i y H₂ hy e => ?_, fun H₂ e => ?_⟩
  · subst e
    obtain ⟨k, r, rfl, hr⟩ := key_at hy
    have rok := ok.row _ (List.mem_of_getElem? hr)
    refine WS_cons ?_
    ktf_call q_mm
    obtain ⟨fs, ifs, hfs⟩ := cls (some (.dict ((rs.take i).map fun p => (p.1, rowT p.2))))
    refine ⟨T.fn 18, fs, ifs, hfs _ (by decide +kernel) (by decide +kernel), Facts.mt T 18 _ (by decide +kernel), ?_⟩
    ktf_call q_mm
    refine prgBlock_spec (d := d) T (hp2 _) ok hr fun b hb => ?_
    obtain ⟨os, lv, ib, io, il⟩ := hb
    have il2 : IsInst _ lv (T.fn 12) (lastF r.last) := il
    ktf_call q_mm
    refine W1_comp1 (fun y => [("op", y)]) (fun w => [("program", v), ("found", .ref a), ("label", .int k), ("block", b), ("ops", w)]) (by intro w; ktf_call q_lsetk) (by decide +kernel) (by decide +kernel) (by decide +kernel) (by intro _ _; rfl) ?_
    ktf_call q_mm
    have hz := rok.ops
    dsimp only at hz
    refine Comp1.same os (r.ops.map opT) [] (.inl rfl) (by rw [List.length_map, io.length]) (by simp; lia) (Sub.nil _) (fun _ hp => nomatch hp) (fun y => rfl) (fun y => Sub.nil _) (fun j y z hy hz => ?_) ?_
    · obtain ⟨o, ho, iy⟩ := io.get hy
      rw [List.getElem?_map, ho] at hz
      cases hz
      have iy2 : IsInst _ y (T.fn 8) (opF o (opDat o)) := iy
      ktf_call q_mm
      exact ⟨by simp, rfl, rfl⟩
    ktf_call q_mm
    refine ⟨by simp, ?_⟩
    ktf_call q_mm
    refine ⟨by simp, ?_⟩
    ktf_call q_mm
    refine U3_setD (upd_self ..) (by have := ok.len; simp; lia) ?_
    ktf_call q_mm
    have hn : k ∉ ((rs.take i).map fun p => (p.1, rowT p.2)).map (·.1) := by
      have := asc_take (l := rs.map (·.1)) (asc_nodup ok.asc) (i := i) (k := k) (by rw [List.getElem?_map, hr]; rfl)
      rw [List.map_map]
      rw [← List.map_take] at this
      exact this
    rw [upd_upd, dset_new hn, take_snoc hr, List.map_append]; rfl
  · subst e
    ktf_call q_mm
    have e : (intsL (rs.map (·.1))).length = rs.length := by simp [intsL]
    rw [e, List.take_length]
    exact froze_dict h1 q
end


/-! ## counting -/

noncomputable def zget : List (Int × Int) → Int → Option Int
  | [], _ => none
  | (j, v) :: r, k => if k = j then some v else zget r k
noncomputable def zset : List (Int × Int) → Int → Int → List (Int × Int)
  | [], k, v => [(k, v)]
  | (j, u) :: r, k, v => if k = j then (j, v) :: r else (j, u) :: zset r k v
noncomputable def zv (m : List (Int × Int)) : List (Int × AVal) := m.map fun p => (p.1, .int p.2)
noncomputable def bump (m : List (Int × Int)) (x : Int) : List (Int × Int) := zset m x ((zget m x).getD 0 + 1)
theorem dget_zv : ∀ (m : List (Int × Int)) (k : Int), dget (zv m) k = (zget m k).map AVal.int
  | [], k => rfl
  | (j, v) :: r, k => by
    show (if k = j then some (AVal.int v) else dget (zv r) k) = _
    unfold zget
    split
    · rfl
    · exact dget_zv r k
theorem dset_zv : ∀ (m : List (Int × Int)) (k n : Int), dset (zv m) k (.int n) = zv (zset m k n)
  | [], k, n => rfl
  | (j, v) :: r, k, n => by
    show (if k = j then (j, AVal.int n) :: zv r else (j, AVal.int v) :: dset (zv r) k (.int n)) = _
    unfold zset
    split
    · rfl
    · rw [dset_zv r k n]; rfl
theorem zset_len : ∀ (m : List (Int × Int)) (k n : Int), (zset m k n).length ≤ m.length + 1
  | [], k, n => by simp [zset]
  | (j, v) :: r, k, n => by
    unfold zset
    split
    · simp
    · simp; exact zset_len r k n
theorem bumps_len : ∀ (ns : List Int) (m : List (Int × Int)), (ns.foldl bump m).length ≤ m.length + ns.length
  | [], m => by simp
  | n :: ns, m => by
    have h1 := bumps_len ns (bump m n)
    have h2 := zset_len m n ((zget m n).getD 0 + 1)
    simp only [List.foldl_cons, List.length_cons]
    unfold bump at h1
    unfold bump
    lia
theorem getD_zv (m : List (Int × Int)) (k : Int) : (dget (zv m) k).getD (.int 0) = .int ((zget m k).getD 0) := by
  rw [dget_zv]; cases zget m k <;> rfl

section
variable {B : Base} {H H' : AHeap} {d : Nat} {sc : Scope} {ρ : Loc}

theorem Sub.lset {x : Str} {y : AVal} (h : lget ρ x = none) : Sub ρ (lset ρ x y) := fun z u e => by
  rw [lget_lset]
  by_cases q : z = x
  · rw [q, h] at e; cases e
  · rw [if_neg q]; exact e

theorem W1_bump {x f : Str} {iter : Expr} {px p1 p2 p3 p4 p5 p6 p7 p8 p9 p10 p11 pos : Pos} {k0 k1 : Nat} {a : Addr} {Q : Fl → Loc → AHeap → Prop} (hf : lget ρ f = some (.ref a)) (hx0 : lget ρ x = none) (hx : isVar sc x = true) (hse : ∀ env y, foldedSetIterable iter env y = pure y)
    (h : W B d sc ρ iter (fun v H₁ => ∃ ns m H₂, Iter v (intsL ns) ∧ H₁ a = some (.dict (zv m)) ∧ m.length + ns.length ≤ 100000 ∧ upd H₁ a (some (.dict (zv (ns.foldl bump m)))) = H₂ ∧ Q .next ρ H₂) H)
    (d1 : (f == ("__debug__" : Str)) = false) (d2 : (f == ("__classdict__" : Str)) = false) (d3 : (x == ("__debug__" : Str)) = false) (d4 : (x == ("__classdict__" : Str)) = false) (hline : (p5.endLine == p8.line) = true) :
    W1 B d sc ρ (.For (.Name x px) iter [.Assign [.Subscript (.Name f p1) (.Name x p2) p3] (.BinOp (.Call (.Attribute (.Name f p4) "get" p5) [.Name x p6, .Constant (.int 0) k0 p7] [] p8) .Add (.Constant (.int 1) k1 p9) p10) p11] [] pos) Q H := by
  have nfx : f ≠ x := fun z => by rw [z, hx0] at hf; cases hf
  refine W1_forE hx hse (W_mono h fun v H₁ ⟨ns, m, H₂, it, e1, hz, e2, q⟩ => ?_)
  refine ⟨intsL ns, ρ, fun i ρ₁ H' => ρ₁ = ρ ∧ H' = upd H₁ a (some (.dict (zv ((ns.take i).foldl bump m)))), it, .refl _, ⟨rfl, ?_⟩, ?_, ?_⟩
  · show H₁ = upd H₁ a (some (.dict (zv m)))
    rw [upd_id _ _ _ e1]
  · rintro i y ρ₁ H₃ hy ⟨rfl, rfl⟩
    obtain ⟨n, hn, rfl⟩ : ∃ n, ns[i]? = some n ∧ y = .int n := by
      unfold intsL at hy
      rw [List.getElem?_map] at hy
      cases hn : ns[i]? with
      | none => rw [hn] at hy; cases hy
      | some n => rw [hn] at hy; cases hy; exact ⟨n, rfl, rfl⟩
    have gf : lget (lset ρ₁ x (.int n)) f = some (.ref a) := by rw [lget_lset, if_neg nfx]; exact hf
    have gx : lget (lset ρ₁ x (.int n)) x = some (.int n) := by rw [lget_lset, if_pos rfl]
    have hlen := bumps_len (ns.take i) m
    have htl : (ns.take i).length ≤ ns.length := by simp; lia
    refine WS_cons (W1_assign (W_bin (W_get (W_var gf ⟨_, .inr ⟨a, rfl, upd_self ..⟩, W_var gx ⟨n, rfl, W_int ⟨_, .inr ⟨a, rfl, upd_self ..⟩, W_int ?_⟩⟩ d3 d4⟩ d1 d2) (by intro _; with_unfolding_all rfl) hline)))
    rw [getD_zv]
    refine V2_add (WA_sub (W_var gf (W_var gx (U3_setD (upd_self ..) (by simp [zv]; lia) (WS_nil ⟨ρ₁, Sub.lset hx0, rfl, ?_⟩)) d3 d4) d1 d2))
    rw [upd_upd, dset_zv, List.take_add_one, hn]
    simp only [Option.toList, List.foldl_append, List.foldl_cons, List.foldl_nil]
    rfl
  · rintro ρ₁ H₃ ⟨rfl, rfl⟩
    rw [show (intsL ns).length = ns.length by simp [intsL], List.take_length, e2]; exact q
end


/-! ## what the project tells of a program -/

structure RowsSm (rs : List (Int × RowR)) : Prop where
  len : rs.length ≤ 6
  ops : ∀ p ∈ rs, p.2.ops.length ≤ 2
  params : ∀ p ∈ rs, p.2.params.length ≤ 2
  args : ∀ p ∈ rs, ∀ o ∈ p.2.ops, o.args.length ≤ 2
  results : ∀ p ∈ rs, ∀ o ∈ p.2.ops, o.results.length ≤ 2
  labels : ∀ p ∈ rs, ∀ o ∈ p.2.ops, o.labels.length ≤ 2
  last : ∀ p ∈ rs, p.2.last.args.length ≤ 2

noncomputable def rowReads (r : RowR) : List Int := r.ops.flatMap (·.args) ++ lastReads r.last
noncomputable def rowLabels (r : RowR) : List Int := r.ops.flatMap (·.labels) ++ lastTargets r.last
noncomputable def tally (xs : List Int) : List (Int × Int) := xs.foldl bump []
theorem tally_append (xs ys : List Int) : ys.foldl bump (tally xs) = tally (xs ++ ys) := by unfold tally; rw [List.foldl_append]
theorem tally_len (xs : List Int) : (tally xs).length ≤ xs.length := by have := bumps_len xs []; unfold tally; simpa using this
theorem lastReads_len (l : LastR) (h : l.args.length ≤ 2) : (lastReads l).length ≤ 4 := by
  unfold lastReads
  simp only [List.length_append]
  have h1 : (if l.fun_ ≥ 0 then [l.fun_] else []).length ≤ 1 := by split <;> simp
  have h2 : (if l.var ≥ 0 then [l.var] else []).length ≤ 1 := by split <;> simp
  lia
theorem lastTargets_len (l : LastR) : (lastTargets l).length ≤ 2 := by
  unfold lastTargets
  simp only [List.length_append]
  have h1 : (if l.to ≥ 0 then [l.to] else []).length ≤ 1 := by split <;> simp
  have h2 : (if l.other ≥ 0 then [l.other] else []).length ≤ 1 := by split <;> simp
  lia
theorem flat_take {α : Type} (f : α → List Int) (l : List α) (i n : Nat) (h : ∀ x ∈ l, (f x).length ≤ n) : ((l.take i).flatMap f).length ≤ l.length * n := by
  have h1 := flat_len (f := f) (n := n) (l := l.take i) fun x hx => h x (List.mem_of_mem_take hx)
  have h2 : (l.take i).length ≤ l.length := by simp; lia
  exact Nat.le_trans h1 (Nat.mul_le_mul_right _ h2)
theorem rowReads_len {rs : List (Int × RowR)} (sm : RowsSm rs) {p : Int × RowR} (hp : p ∈ rs) : (rowReads p.2).length ≤ 8 := by
  have h1 := flat_len (f := fun o : OpR => o.args) (n := 2) (l := p.2.ops) (sm.args p hp)
  have h2 := lastReads_len p.2.last (sm.last p hp)
  have h3 := sm.ops p hp
  unfold rowReads
  simp only [List.length_append]
  lia
theorem rowLabels_len {rs : List (Int × RowR)} (sm : RowsSm rs) {p : Int × RowR} (hp : p ∈ rs) : (rowLabels p.2).length ≤ 6 := by
  have h1 := flat_len (f := fun o : OpR => o.labels) (n := 2) (l := p.2.ops) (sm.labels p hp)
  have h2 := lastTargets_len p.2.last
  have h3 := sm.ops p hp
  unfold rowLabels
  simp only [List.length_append]
  lia

section
variable {B : Base} {H H' : AHeap} {d : Nat}

theorem prg_cls {T : Facts B} {v : AVal} {rs : List (Int × RowR)} (hp : IsPrg T H v rs) : ∃ fs, IsInst H v (T.fn 18) fs ∧ ∀ x : Str, x ≠ "table" → x ≠ "entry" → lget fs x = none := by
  obtain ⟨tv, kvs, i, _⟩ := hp
  exact ⟨_, i, fun x a b => by simp [lget, a, b]⟩

theorem prgBlock_base (T : Facts B) {v : AVal} {rs : List (Int × RowR)} {i : Nat} {k : Int} {r : RowR} {Q : AVal → AHeap → Prop} (hp : IsPrg T H v rs) (e' : Ext H H') (ok : RowsOK rs) (e : rs[i]? = some (k, r)) (q : ∀ b, IsBlk T H b k r → Q b H') : CallM B (d + 1) (T.fn 18) "block" [v, .int k] Q H' := by
  obtain ⟨tv, kvs, a, b, c⟩ := hp
  obtain ⟨bv, e1, e2⟩ := c.at_ ok e
  exact block_spec T (a.ext e') (b.ext e') e1 (q bv e2)

/-- «program.block(label)» -/
theorem W_block (T : Facts B) {sc : Scope} {ρ : Loc} {v : AVal} {rs : List (Int × RowR)} {i : Nat} {k : Int} {r : RowR} {Q : AVal → AHeap → Prop} {p1 p2 p3 p4 : Pos} (hp : IsPrg T H v rs) (e' : Ext H H') (ok : RowsOK rs) (e : rs[i]? = some (k, r)) (hpr : lget ρ "program" = some v) (hl : lget ρ "label" = some (.int k))
    (hline : (p2.endLine == p4.line) = true) (q : ∀ b, IsBlk T H b k r → Q b H') : W B (d + 1) sc ρ (.Call (.Attribute (.Name "program" p1) "block" p2) [.Name "label" p3] [] p4) Q H' := by
  obtain ⟨fs, ifs, hfs⟩ := prg_cls (hp.ext e')
  refine W_methg (W_var hpr ⟨T.fn 18, fs, ifs, hfs _ (by decide +kernel) (by decide +kernel), Facts.mt T 18 _ (by decide +kernel), WL_cons (W_var hl (WL_nil (prgBlock_base T hp e' ok e q)) (by decide +kernel) (by decide +kernel))⟩ (by decide +kernel) (by decide +kernel)) (by intro _; with_unfolding_all rfl) hline (by simp)

theorem W1_forLabels (T : Facts B) {sc : Scope} {v : AVal} {rs : List (Int × RowR)} {a : Addr} {px p1 p2 p3 pos : Pos} {body : List Stmt} {Q : Fl → Loc → AHeap → Prop} (hp : IsPrg T H v rs) (ok : RowsOK rs) (h1 : H a = none) (c : Nat → AObj) (hx : isVar sc "label" = true) (hline : (p2.endLine == p3.line) = true)
    (step : ∀ i k r, rs[i]? = some (k, r) → (k, r) ∈ rs → WS B (d + 1) sc [("program", v), ("found", .ref a), ("label", .int k)] body (FQ [("program", v), ("found", .ref a)] (fun H' => H' = upd H a (some (c (i + 1)))) Q) (upd H a (some (c i))))
    (fin : Q .next [("program", v), ("found", .ref a)] (upd H a (some (c rs.length)))) : W1 B (d + 1) sc [("program", v), ("found", .ref a)] (.For (.Name "label" px) (.Call (.Attribute (.Name "program" p1) "labels" p2) [] [] p3) body [] pos) Q (upd H a (some (c 0))) := by
  have e' : Ext H (upd H a (some (c 0))) := ext_upd h1
  obtain ⟨fs, ifs, hfs⟩ := prg_cls (hp.ext e')
  refine W1_forF (fun i H' => H' = upd H a (some (c i))) (fun y => [("program", v), ("found", .ref a), ("label", y)]) hx (by intro y; ktf_call q_lsetk) (by intro _ _; rfl) ?_
  refine W_methg (W_var lget_hd ⟨T.fn 18, fs, ifs, hfs _ (by decide +kernel) (by decide +kernel), Facts.mt T 18 _ (by decide +kernel), WL_nil (prgLabels_spec T (hp.ext e') ok ?_)⟩ (by decide +kernel) (by decide +kernel)) (by intro _; with_unfolding_all rfl) hline (by simp)
  refine ⟨_, .inl rfl, rfl, fun i y H₂ hy e => ?_, fun H₂ e => ?_⟩
  · subst e
    obtain ⟨k, r, rfl, hr⟩ := key_at hy
    exact step i k r hr (List.mem_of_getElem? hr)
  · subst e
    rw [show (intsL (rs.map (·.1))).length = rs.length by simp [intsL]]
    exact fin

theorem readCounts_spec (T : Facts B) {v : AVal} {rs : List (Int × RowR)} {Q : AVal → AHeap → Prop} (hp : IsPrg T H v rs) (ok : RowsOK rs) (sm : RowsSm rs) (q : Q (.dct (zv (tally (rs.flatMap fun p => rowReads p.2)))) H) : CallG B (d + 2) "read_counts" [v] Q H := by
  refine CallG.freeze (fn_start T 20 ["program"] (by decide) (by decide +kernel) (by ktf_call q_bind) (by decide +kernel) rfl ?_)
  have smlen := sm.len
  ktf_call q_z
  ktf_call q_s
  refine W_dict0 fun a h1 => ?_
  ktf_call q_mm
  refine W1_forLabels T hp ok h1 (fun i => .dict (zv (tally ((rs.take i).flatMap fun p => rowReads p.2)))) (by decide +kernel) (by decide) (fun i k r hr hm => ?_) ?_
  · have hbase : ((rs.take i).flatMap fun p => rowReads p.2).length ≤ rs.length * 8 := flat_take _ _ _ _ fun p hp => rowReads_len sm hp
    refine WS_cons ?_
    ktf_call q_s
    refine W_block T hp (ext_upd h1) ok hr (by ktf_call q_lget) (by ktf_call q_lget) (by decide) fun b hb => ?_
    obtain ⟨os, lv, ib, io, il⟩ := hb
    have ib2 : ∀ ob, IsInst (upd H a ob) b (T.fn 17) (blkF k r (.lst os) lv) := fun ob => ib.ext (ext_upd h1)
    have il2 : ∀ ob, IsInst (upd H a ob) lv (T.fn 12) (lastF r.last) := fun ob => IsInst.ext il (ext_upd h1)
    have hops := sm.ops _ hm
    dsimp only at hops
    have hargs : ∀ j : Nat, ((r.ops.take j).flatMap (·.args)).length ≤ r.ops.length * 2 := fun j => flat_take _ _ _ _ fun o ho => sm.args _ hm o ho
    ktf_call q_mm
    refine W1_forF (fun j H' => H' = upd H a (some (.dict (zv (tally (((rs.take i).flatMap fun p => rowReads p.2) ++ (r.ops.take j).flatMap (·.args))))))) (fun y => [("program", v), ("found", .ref a), ("label", .int k), ("block", b), ("op", y)]) (by decide +kernel) (by intro y; ktf_call q_lsetk) (by intro _ _; rfl) ?_
    ktf_call q_mm
    refine ⟨os, .inl rfl, by simp, fun j y H₂ hy e => ?_, fun H₂ e => ?_⟩
    · subst e
      obtain ⟨o, ho, iy⟩ := io.get hy
      have iy2 : ∀ ob, IsInst (upd H a ob) y (T.fn 8) (opF o (opDat o)) := fun ob => IsInst.ext iy (ext_upd h1)
      have hoa := sm.args _ hm o (List.mem_of_getElem? ho)
      have hj := hargs j
      refine WS_cons (W1_bump (f := "found") (a := a) (by ktf_call q_lget) (by rfl) (by decide +kernel) (by intro _ _; rfl) ?_ (by decide +kernel) (by decide +kernel) (by decide +kernel) (by decide +kernel) (by decide))
      ktf_call q_mm
      refine ⟨o.args, _, _, .inl rfl, upd_self .., ?_, upd_upd .., ?_⟩
      · have := tally_len (((rs.take i).flatMap fun p => rowReads p.2) ++ (r.ops.take j).flatMap (·.args))
        simp only [List.length_append] at this
        lia
      ktf_call q_mm
      rw [tally_append, take_snoc ho, List.flatMap_append, List.append_assoc]
      simp
    · subst e
      rw [io.length, List.take_length]
      have hj := hargs r.ops.length
      rw [List.take_length] at hj
      refine WS_cons (W1_bump (f := "found") (a := a) (by ktf_call q_lget) (by rfl) (by decide +kernel) (by intro _ _; rfl) ?_ (by decide +kernel) (by decide +kernel) (by decide +kernel) (by decide +kernel) (by decide))
      refine W_freeze ?_
      ktf_call q_mm
      refine ⟨T.fn 12, _, il2 _, by rfl, Facts.mt T 12 _ (by decide +kernel), ?_⟩
      ktf_call q_mm
      refine lastReads_spec (d := d) T (il2 _) ⟨by have := sm.last _ hm; dsimp only at this; lia⟩ fun l hl => ?_
      refine froze_list hl ?_
      have hlr := lastReads_len r.last (sm.last _ hm)
      refine ⟨lastReads r.last, _, _, .inl rfl, upd_self .., ?_, upd_upd .., ?_⟩
      · have := tally_len (((rs.take i).flatMap fun p => rowReads p.2) ++ r.ops.flatMap (·.args))
        simp only [List.length_append] at this
        lia
      ktf_call q_mm
      rw [tally_append, take_snoc hr, List.flatMap_append, List.append_assoc]
      simp [rowReads]
  · ktf_call q_mm
    rw [List.take_length]
    exact froze_dict h1 q
end


section
variable {B : Base} {H H' : AHeap} {d : Nat} {sc : Scope} {ρ : Loc}

theorem labelCounts_spec (T : Facts B) {v : AVal} {rs : List (Int × RowR)} {Q : AVal → AHeap → Prop} (hp : IsPrg T H v rs) (ok : RowsOK rs) (sm : RowsSm rs) (q : Q (.dct (zv (tally (rs.flatMap fun p => rowLabels p.2)))) H) : CallG B (d + 2) "label_counts" [v] Q H := by
  refine CallG.freeze (fn_start T 21 ["program"] (by decide) (by decide +kernel) (by ktf_call q_bind) (by decide +kernel) rfl ?_)
  have smlen := sm.len
  ktf_call q_z
  ktf_call q_s
  refine W_dict0 fun a h1 => ?_
  ktf_call q_mm
  refine W1_forLabels T hp ok h1 (fun i => .dict (zv (tally ((rs.take i).flatMap fun p => rowLabels p.2)))) (by decide +kernel) (by decide) (fun i k r hr hm => ?_) ?_
  · have hbase : ((rs.take i).flatMap fun p => rowLabels p.2).length ≤ rs.length * 6 := flat_take _ _ _ _ fun p hp => rowLabels_len sm hp
    refine WS_cons ?_
    ktf_call q_s
    refine W_block T hp (ext_upd h1) ok hr (by ktf_call q_lget) (by ktf_call q_lget) (by decide) fun b hb => ?_
    obtain ⟨os, lv, ib, io, il⟩ := hb
    have ib2 : ∀ ob, IsInst (upd H a ob) b (T.fn 17) (blkF k r (.lst os) lv) := fun ob => ib.ext (ext_upd h1)
    have il2 : ∀ ob, IsInst (upd H a ob) lv (T.fn 12) (lastF r.last) := fun ob => IsInst.ext il (ext_upd h1)
    have hops := sm.ops _ hm
    dsimp only at hops
    have hargs : ∀ j : Nat, ((r.ops.take j).flatMap (·.labels)).length ≤ r.ops.length * 2 := fun j => flat_take _ _ _ _ fun o ho => sm.labels _ hm o ho
    ktf_call q_mm
    refine W1_forF (fun j H' => H' = upd H a (some (.dict (zv (tally (((rs.take i).flatMap fun p => rowLabels p.2) ++ (r.ops.take j).flatMap (·.labels))))))) (fun y => [("program", v), ("found", .ref a), ("label", .int k), ("block", b), ("op", y)]) (by decide +kernel) (by intro y; ktf_call q_lsetk) (by intro _ _; rfl) ?_
    ktf_call q_mm
    refine ⟨os, .inl rfl, by simp, fun j y H₂ hy e => ?_, fun H₂ e => ?_⟩
    · subst e
      obtain ⟨o, ho, iy⟩ := io.get hy
      have iy2 : ∀ ob, IsInst (upd H a ob) y (T.fn 8) (opF o (opDat o)) := fun ob => IsInst.ext iy (ext_upd h1)
      have hoa := sm.labels _ hm o (List.mem_of_getElem? ho)
      have hj := hargs j
      refine WS_cons (W1_bump (f := "found") (a := a) (by ktf_call q_lget) (by rfl) (by decide +kernel) (by intro _ _; rfl) ?_ (by decide +kernel) (by decide +kernel) (by decide +kernel) (by decide +kernel) (by decide))
      ktf_call q_mm
      refine ⟨o.labels, _, _, .inl rfl, upd_self .., ?_, upd_upd .., ?_⟩
      · have := tally_len (((rs.take i).flatMap fun p => rowLabels p.2) ++ (r.ops.take j).flatMap (·.labels))
        simp only [List.length_append] at this
        lia
      ktf_call q_mm
      rw [tally_append, take_snoc ho, List.flatMap_append, List.append_assoc]
      simp
    · subst e
      rw [io.length, List.take_length]
      have hj := hargs r.ops.length
      rw [List.take_length] at hj
      refine WS_cons (W1_bump (f := "found") (a := a) (by ktf_call q_lget) (by rfl) (by decide +kernel) (by intro _ _; rfl) ?_ (by decide +kernel) (by decide +kernel) (by decide +kernel) (by decide +kernel) (by decide))
      refine W_freeze ?_
      ktf_call q_mm
      refine ⟨T.fn 12, _, il2 _, by rfl, Facts.mt T 12 _ (by decide +kernel), ?_⟩
      ktf_call q_mm
      refine lastTargets_spec (d := d) T (il2 _) fun l hl => ?_
      refine froze_list hl ?_
      have hlr := lastTargets_len r.last
      refine ⟨lastTargets r.last, _, _, .inl rfl, upd_self .., ?_, upd_upd .., ?_⟩
      · have := tally_len (((rs.take i).flatMap fun p => rowLabels p.2) ++ r.ops.flatMap (·.labels))
        simp only [List.length_append] at this
        lia
      ktf_call q_mm
      rw [tally_append, take_snoc hr, List.flatMap_append, List.append_assoc]
      simp [rowLabels]
  · ktf_call q_mm
    rw [List.take_length]
    exact froze_dict h1 q

/-! ### dicts that are filled -/

noncomputable def puts (kvs : List (Int × AVal)) (ns : List Int) (v : AVal) : List (Int × AVal) := ns.foldl (fun m n => dset m n v) kvs
noncomputable def kadd (ks : List Int) (k : Int) : List Int := if k ∈ ks then ks else ks ++ [k]
noncomputable def kuniq (ks : List Int) : List Int := ks.foldl kadd []
theorem dset_keys : ∀ (m : List (Int × AVal)) (k : Int) (v : AVal), (dset m k v).map (·.1) = kadd (m.map (·.1)) k
  | [], k, v => by simp [dset, kadd]
  | (j, u) :: r, k, v => by
    have ih := dset_keys r k v
    by_cases q : k = j
    · subst q; simp [dset, kadd]
    · simp only [dset, if_neg q, List.map_cons, ih]
      unfold kadd
      by_cases hm : k ∈ r.map (·.1)
      · rw [if_pos hm, if_pos (.tail _ hm)]
      · rw [if_neg hm, if_neg fun z => by
          rcases List.mem_cons.mp z with z | z
          · exact q z
          · exact hm z]; rfl
theorem puts_keys (ns : List Int) (v : AVal) : ∀ m : List (Int × AVal), (puts m ns v).map (·.1) = ns.foldl kadd (m.map (·.1)) := by
  induction ns with
  | nil => intro m; rfl
  | cons n ns ih => intro m; show (puts (dset m n v) ns v).map (·.1) = _; rw [ih, dset_keys]; rfl
theorem zv_keys (m : List (Int × Int)) : (zv m).map (·.1) = m.map (·.1) := by simp [zv]
theorem zset_keys (m : List (Int × Int)) (k n : Int) : (zset m k n).map (·.1) = kadd (m.map (·.1)) k := by
  have := dset_keys (zv m) k (.int n)
  rw [dset_zv, zv_keys, zv_keys] at this; exact this
theorem tally_keys (xs : List Int) : (tally xs).map (·.1) = kuniq xs := by
  have : ∀ (xs : List Int) (m : List (Int × Int)), (xs.foldl bump m).map (·.1) = xs.foldl kadd (m.map (·.1)) := by
    intro xs
    induction xs with
    | nil => intro m; rfl
    | cons x xs ih => intro m; show ((xs.foldl bump (bump m x)).map (·.1)) = _; rw [ih]; unfold bump; rw [zset_keys]; rfl
  exact this xs []
theorem kuniq_append (xs ys : List Int) : ys.foldl kadd (kuniq xs) = kuniq (xs ++ ys) := by unfold kuniq; rw [List.foldl_append]
theorem kadd_mem {ks : List Int} {k j : Int} : j ∈ kadd ks k ↔ j ∈ ks ∨ j = k := by
  unfold kadd
  split
  · rename_i h
    exact ⟨.inl, fun q => q.elim id fun z => z ▸ h⟩
  · simp
theorem kadd_nodup {ks : List Int} {k : Int} (h : ks.Nodup) : (kadd ks k).Nodup := by
  unfold kadd
  split
  · exact h
  · rename_i hk
    rw [List.nodup_append]
    exact ⟨h, by simp, fun a ha b hb => by
      rw [List.mem_singleton] at hb
      subst hb
      exact fun z => hk (z ▸ ha)⟩
theorem kadds (ys : List Int) : ∀ ks : List Int, (∀ j, j ∈ ys.foldl kadd ks ↔ j ∈ ks ∨ j ∈ ys) ∧ (ks.Nodup → (ys.foldl kadd ks).Nodup) := by
  induction ys with
  | nil => intro ks; exact ⟨fun j => by simp, id⟩
  | cons y ys ih =>
    intro ks
    obtain ⟨h1, h2⟩ := ih (kadd ks y)
    refine ⟨fun j => ?_, fun h => h2 (kadd_nodup h)⟩
    rw [List.foldl_cons, h1, kadd_mem]; simp [or_assoc]
theorem kuniq_mem {xs : List Int} {j : Int} : j ∈ kuniq xs ↔ j ∈ xs := by
  have := (kadds xs []).1 j
  simpa [kuniq] using this
theorem kuniq_nodup (xs : List Int) : (kuniq xs).Nodup := (kadds xs []).2 .nil
theorem kuniq_len (xs : List Int) : (kuniq xs).length ≤ xs.length := by rw [← tally_keys, List.length_map]; exact tally_len xs

theorem puts_len (ns : List Int) (v : AVal) (m : List (Int × AVal)) : (puts m ns v).length ≤ m.length + ns.length := by
  have : ∀ (ns ks : List Int), (ns.foldl kadd ks).length ≤ ks.length + ns.length := by
    intro ns
    induction ns with
    | nil => intro ks; simp
    | cons n ns ih =>
      intro ks
      have h1 := ih (kadd ks n)
      have h2 : (kadd ks n).length ≤ ks.length + 1 := by unfold kadd; split <;> simp
      simp only [List.foldl_cons, List.length_cons]; lia
  have h := this ns (m.map (·.1))
  rw [← puts_keys ns v, List.length_map, List.length_map] at h; exact h

theorem W1_insert {x f y : Str} {iter : Expr} {px p1 p2 p3 p4 p5 pos : Pos} {a : Addr} {w : AVal} {Q : Fl → Loc → AHeap → Prop} (hf : lget ρ f = some (.ref a)) (hy : lget ρ y = some w) (hx0 : lget ρ x = none) (hx : isVar sc x = true) (hse : ∀ env y, foldedSetIterable iter env y = pure y)
    (h : W B d sc ρ iter (fun v H₁ => ∃ ns m H₂, Iter v (intsL ns) ∧ H₁ a = some (.dict m) ∧ m.length + ns.length ≤ 100000 ∧ upd H₁ a (some (.dict (puts m ns w))) = H₂ ∧ Q .next ρ H₂) H)
    (d1 : (f == ("__debug__" : Str)) = false) (d2 : (f == ("__classdict__" : Str)) = false) (d3 : (x == ("__debug__" : Str)) = false) (d4 : (x == ("__classdict__" : Str)) = false) (d5 : (y == ("__debug__" : Str)) = false) (d6 : (y == ("__classdict__" : Str)) = false) :
    W1 B d sc ρ (.For (.Name x px) iter [.Assign [.Subscript (.Name f p1) (.Name x p2) p3] (.Name y p4) p5] [] pos) Q H := by
  have nfx : f ≠ x := fun z => by rw [z, hx0] at hf; cases hf
  have nyx : y ≠ x := fun z => by rw [z, hx0] at hy; cases hy
  refine W1_forE hx hse (W_mono h fun v H₁ ⟨ns, m, H₂, it, e1, hz, e2, q⟩ => ?_)
  refine ⟨intsL ns, ρ, fun i ρ₁ H' => ρ₁ = ρ ∧ H' = upd H₁ a (some (.dict (puts m (ns.take i) w))), it, .refl _, ⟨rfl, ?_⟩, ?_, ?_⟩
  · show H₁ = upd H₁ a (some (.dict m))
    rw [upd_id _ _ _ e1]
  · rintro i y' ρ₁ H₃ hy' ⟨rfl, rfl⟩
    obtain ⟨n, hn, rfl⟩ : ∃ n, ns[i]? = some n ∧ y' = .int n := by
      unfold intsL at hy'
      rw [List.getElem?_map] at hy'
      cases hn : ns[i]? with
      | none => rw [hn] at hy'; cases hy'
      | some n => rw [hn] at hy'; cases hy'; exact ⟨n, rfl, rfl⟩
    have gf : lget (lset ρ₁ x (.int n)) f = some (.ref a) := by rw [lget_lset, if_neg nfx]; exact hf
    have gy : lget (lset ρ₁ x (.int n)) y = some w := by rw [lget_lset, if_neg nyx]; exact hy
    have gx : lget (lset ρ₁ x (.int n)) x = some (.int n) := by rw [lget_lset, if_pos rfl]
    have hlen := puts_len (ns.take i) w m
    have htl : (ns.take i).length ≤ ns.length := by simp; lia
    refine WS_cons (W1_assign (W_var gy (WA_sub (W_var gf (W_var gx (U3_setD (upd_self ..) (by lia) (WS_nil ⟨ρ₁, Sub.lset hx0, rfl, ?_⟩)) d3 d4) d1 d2)) d5 d6))
    rw [upd_upd, List.take_add_one, hn]
    simp only [puts, Option.toList, List.foldl_append, List.foldl_cons, List.foldl_nil]
  · rintro ρ₁ H₃ ⟨rfl, rfl⟩
    rw [show (intsL ns).length = ns.length by simp [intsL], List.take_length, e2]; exact q

theorem W1_forLabelsJ (T : Facts B) {sc : Scope} {v : AVal} {rs : List (Int × RowR)} {a : AVal} {px p1 p2 p3 pos : Pos} {body : List Stmt} {Q : Fl → Loc → AHeap → Prop} (hp : IsPrg T H v rs) (ok : RowsOK rs) (J : Nat → AHeap → Prop) (hJ : ∀ i H', J i H' → Ext H H') (j0 : J 0 H') (hx : isVar sc "label" = true) (hline : (p2.endLine == p3.line) = true)
    (step : ∀ i k r H', rs[i]? = some (k, r) → (k, r) ∈ rs → J i H' → WS B (d + 1) sc [("program", v), ("found", a), ("label", .int k)] body (FQ [("program", v), ("found", a)] (J (i + 1)) Q) H')
    (fin : ∀ H', J rs.length H' → Q .next [("program", v), ("found", a)] H') : W1 B (d + 1) sc [("program", v), ("found", a)] (.For (.Name "label" px) (.Call (.Attribute (.Name "program" p1) "labels" p2) [] [] p3) body [] pos) Q H' := by
  have e' : Ext H H' := hJ _ _ j0
  obtain ⟨fs, ifs, hfs⟩ := prg_cls (hp.ext e')
  refine W1_forF J (fun y => [("program", v), ("found", a), ("label", y)]) hx (by intro y; ktf_call q_lsetk) (by intro _ _; rfl) ?_
  refine W_methg (W_var lget_hd ⟨T.fn 18, fs, ifs, hfs _ (by decide +kernel) (by decide +kernel), Facts.mt T 18 _ (by decide +kernel), WL_nil (prgLabels_spec T (hp.ext e') ok ?_)⟩ (by decide +kernel) (by decide +kernel)) (by intro _; with_unfolding_all rfl) hline (by simp)
  refine ⟨_, .inl rfl, j0, fun i y H₂ hy j => ?_, fun H₂ j => ?_⟩
  · obtain ⟨k, r, rfl, hr⟩ := key_at hy
    exact step i k r _ hr (List.mem_of_getElem? hr) j
  · rw [show (intsL (rs.map (·.1))).length = rs.length by simp [intsL]] at j
    exact fin _ j

noncomputable def rowMade (r : RowR) : List Int := r.ops.flatMap opGiven
noncomputable def zputs (m : List (Int × Int)) (ns : List Int) (k : Int) : List (Int × Int) := ns.foldl (fun m n => zset m n k) m
theorem puts_zv (ns : List Int) (k : Int) : ∀ m : List (Int × Int), puts (zv m) ns (.int k) = zv (zputs m ns k) := by
  induction ns with
  | nil => intro m; rfl
  | cons n ns ih => intro m; show puts (dset (zv m) n (.int k)) ns (.int k) = _; rw [dset_zv, ih]; rfl
noncomputable def givenAt (rs : List (Int × RowR)) : List (Int × Int) := rs.foldl (fun m p => zputs m (blkGiven p.2) p.1) []

theorem opGiven_le {o : OpR} (h : o.results.length ≤ 2) : (opGiven o).length ≤ 2 := by
  unfold opGiven
  split
  · exact h
  · split <;> simp
theorem rowMade_len {rs : List (Int × RowR)} (sm : RowsSm rs) {p : Int × RowR} (hp : p ∈ rs) : (rowMade p.2).length ≤ 4 := by
  have h1 := flat_len (f := opGiven) (n := 2) (l := p.2.ops) fun o ho => opGiven_le (sm.results p hp o ho)
  have h3 := sm.ops p hp
  unfold rowMade; lia
theorem blkGiven_len {rs : List (Int × RowR)} (sm : RowsSm rs) {p : Int × RowR} (hp : p ∈ rs) : (blkGiven p.2).length ≤ 8 := by
  have h1 := rowMade_len sm hp
  have h3 := sm.params p hp
  have h4 : (if p.2.rest ≥ 0 then [p.2.rest] else []).length ≤ 1 := by split <;> simp
  have h5 : (if p.2.var ≥ 0 then [p.2.var] else []).length ≤ 1 := by split <;> simp
  unfold rowMade at h1
  unfold blkGiven blkBinders
  simp only [List.length_append]; lia

theorem makers_spec (T : Facts B) {v : AVal} {rs : List (Int × RowR)} {Q : AVal → AHeap → Prop} (hp : IsPrg T H v rs) (ok : RowsOK rs) (sm : RowsSm rs) (q : ∀ kvs, kvs.map (·.1) = kuniq (rs.flatMap fun p => rowMade p.2) → Q (.dct kvs) H) : CallG B (d + 2) "makers" [v] Q H := by
  refine CallG.freeze (fn_start T 22 ["program"] (by decide) (by decide +kernel) (by ktf_call q_bind) (by decide +kernel) rfl ?_)
  have smlen := sm.len
  ktf_call q_z
  ktf_call q_s
  refine W_dict0 fun a h1 => ?_
  ktf_call q_mm
  refine W1_forLabelsJ T hp ok (fun i H' => ∃ kvs, H' = upd H a (some (.dict kvs)) ∧ kvs.map (·.1) = kuniq ((rs.take i).flatMap fun p => rowMade p.2)) (fun i H' ⟨kvs, e, _⟩ => e ▸ ext_upd h1) ⟨[], rfl, rfl⟩ (by decide +kernel) (by decide) (fun i k r H' hr hm ⟨kvs, e, hk⟩ => ?_) fun H' ⟨kvs, e, hk⟩ => ?_
  · subst e
    have hbase : ((rs.take i).flatMap fun p => rowMade p.2).length ≤ rs.length * 4 := flat_take _ _ _ _ fun p hp => rowMade_len sm hp
    have hops := sm.ops _ hm
    dsimp only at hops
    have hargs : ∀ j : Nat, ((r.ops.take j).flatMap opGiven).length ≤ r.ops.length * 2 := fun j => flat_take _ _ _ _ fun o ho => opGiven_le (sm.results _ hm o ho)
    refine WS_cons ?_
    refine W1_forF (fun j H' => ∃ kvs, H' = upd H a (some (.dict kvs)) ∧ kvs.map (·.1) = kuniq (((rs.take i).flatMap fun p => rowMade p.2) ++ (r.ops.take j).flatMap opGiven)) (fun y => [("program", v), ("found", .ref a), ("label", .int k), ("op", y)]) (by decide +kernel) (by intro y; ktf_call q_lsetk) (by intro _ _; rfl) ?_
    refine W_attrI ?_ (by intro _; with_unfolding_all rfl)
    refine W_block T hp (ext_upd h1) ok hr (by ktf_call q_lget) (by ktf_call q_lget) (by decide) fun b hb => ?_
    obtain ⟨os, lv, ib, io, il⟩ := hb
    have ib2 : ∀ ob, IsInst (upd H a ob) b (T.fn 17) (blkF k r (.lst os) lv) := fun ob => ib.ext (ext_upd h1)
    ktf_call q_attr
    refine ⟨os, .inl rfl, ⟨kvs, rfl, by simpa using hk⟩, fun j y H₂ hy ⟨kvs, e, hk⟩ => ?_, fun H₂ ⟨kvs, e, hk⟩ => ?_⟩
    · subst e
      obtain ⟨o, ho, iy⟩ := io.get hy
      have iy2 : ∀ ob, IsInst (upd H a ob) y (T.fn 8) (opF o (opDat o)) := fun ob => IsInst.ext iy (ext_upd h1)
      have hj := hargs j
      have hog := opGiven_le (sm.results _ hm o (List.mem_of_getElem? ho))
      refine WS_cons (W1_insert (f := "found") (a := a) (y := "op") (w := y) (by ktf_call q_lget) (by ktf_call q_lget) (by rfl) (by decide +kernel) (by intro _ _; rfl) ?_ (by decide +kernel) (by decide +kernel) (by decide +kernel) (by decide +kernel) (by decide +kernel) (by decide +kernel))
      ktf_call q_mm
      refine ⟨T.fn 8, _, iy2 _, by rfl, Facts.mt T 8 _ (by decide +kernel), ?_⟩
      ktf_call q_mm
      have oko : OpOK o := ok.row _ hm |>.op o (List.mem_of_getElem? ho)
      refine opGiven_spec (d := d) T (iy2 _) oko ?_
      refine ⟨opGiven o, _, _, .inl rfl, upd_self .., ?_, upd_upd .., ?_⟩
      · have := kuniq_len (((rs.take i).flatMap fun p => rowMade p.2) ++ (r.ops.take j).flatMap opGiven)
        rw [← hk, List.length_map] at this
        simp only [List.length_append] at this
        lia
      ktf_call q_mm
      rw [puts_keys, hk, kuniq_append, take_snoc ho, List.flatMap_append, List.append_assoc]
      simp
    · subst e
      rw [io.length, List.take_length] at hk
      ktf_call q_mm
      rw [hk, take_snoc hr, List.flatMap_append]
      simp [rowMade]
  · subst e
    ktf_call q_mm
    rw [List.take_length] at hk
    exact froze_dict h1 (q _ hk)

theorem givenAt_spec (T : Facts B) {v : AVal} {rs : List (Int × RowR)} {Q : AVal → AHeap → Prop} (hp : IsPrg T H v rs) (ok : RowsOK rs) (sm : RowsSm rs) (q : Q (.dct (zv (givenAt rs))) H) : CallG B (d + 3) "given_at" [v] Q H := by
  refine CallG.freeze (fn_start T 23 ["program"] (by decide) (by decide +kernel) (by ktf_call q_bind) (by decide +kernel) rfl ?_)
  have smlen := sm.len
  ktf_call q_z
  ktf_call q_s
  refine W_dict0 fun a h1 => ?_
  ktf_call q_mm
  refine W1_forLabelsJ T hp ok (fun i H' => H' = upd H a (some (.dict (zv (givenAt (rs.take i))))) ∧ (givenAt (rs.take i)).length ≤ i * 8) (fun i H' ⟨e, _⟩ => e ▸ ext_upd h1) ⟨rfl, by simp [givenAt]⟩ (by decide +kernel) (by decide) (fun i k r H' hr hm ⟨e, hz⟩ => ?_) fun H' ⟨e, hz⟩ => ?_
  · subst e
    have hi : i < rs.length := (List.getElem?_eq_some_iff.mp hr).1
    have hg := blkGiven_len sm hm
    dsimp only at hg
    refine WS_cons (W1_insert (f := "found") (a := a) (y := "label") (w := .int k) (by ktf_call q_lget) (by ktf_call q_lget) (by rfl) (by decide +kernel) (by intro _ _; rfl) ?_ (by decide +kernel) (by decide +kernel) (by decide +kernel) (by decide +kernel) (by decide +kernel) (by decide +kernel))
    refine W_freeze ?_
    refine W_methg ?_ (by intro _; with_unfolding_all rfl) (by decide) (by decide)
    refine W_block T hp (ext_upd h1) ok hr (by ktf_call q_lget) (by ktf_call q_lget) (by decide) fun b hb => ?_
    have hb2 : IsBlk T (upd H a (some (.dict (zv (givenAt (rs.take i)))))) b k r := hb.ext (ext_upd h1)
    obtain ⟨os, lv, ib, io, il⟩ := hb2
    refine ⟨T.fn 17, _, ib, by rfl, Facts.mt T 17 _ (by decide +kernel), ?_⟩
    ktf_call q_mm
    refine blkGiven_spec (d := d) T ⟨os, lv, ib, io, il⟩ (ok.row _ hm) fun l hl => ?_
    refine froze_list hl ?_
    refine ⟨blkGiven r, _, _, .inl rfl, upd_self .., ?_, upd_upd .., ?_⟩
    · simp only [zv, List.length_map]; lia
    ktf_call q_mm
    have e : givenAt (rs.take (i + 1)) = zputs (givenAt (rs.take i)) (blkGiven r) k := by
      rw [take_snoc hr]; unfold givenAt; rw [List.foldl_append]; rfl
    refine ⟨by rw [puts_zv, e], ?_⟩
    have hl := puts_len (blkGiven r) (.int k) (zv (givenAt (rs.take i)))
    rw [puts_zv] at hl
    simp only [zv, List.length_map] at hl
    rw [e]; lia
  · subst e
    ktf_call q_mm
    rw [List.take_length]
    exact froze_dict h1 q
end


/-! ## children -/

noncomputable def cadd : List (Int × List Int) → Int → Int → List (Int × List Int)
  | [], k, x => [(k, [x])]
  | (j, xs) :: r, k, x => if k = j then (j, xs ++ [x]) :: r else (j, xs) :: cadd r k x
noncomputable def kidsOf (rs : List (Int × RowR)) : List (Int × List Int) := rs.foldl (fun m p => if p.2.parent ≥ 0 then cadd m p.2.parent p.1 else m) []
noncomputable def kv (m : List (Int × List Int)) : List (Int × AVal) := m.map fun p => (p.1, .lst (intsL p.2))

noncomputable abbrev Kid := Int × Addr × List Int
noncomputable def kidL (L : List Kid) : List (Int × List Int) := L.map fun t => (t.1, t.2.2)
noncomputable def kidR (L : List Kid) : List (Int × AVal) := L.map fun t => (t.1, .ref t.2.1)
noncomputable def kidA (L : List Kid) : List Addr := L.map (·.2.1)

structure KidsAt (H : AHeap) (a : Addr) (L : List Kid) (H' : AHeap) : Prop where
  nd : (a :: kidA L).Nodup
  new : ∀ b ∈ a :: kidA L, H b = none
  dict : H' a = some (.dict (kidR L))
  list : ∀ t ∈ L, H' t.2.1 = some (.list (intsL t.2.2))
  rest : ∀ b, b ∉ a :: kidA L → H' b = H b

theorem KidsAt.ext {H H' : AHeap} {a : Addr} {L : List Kid} (k : KidsAt H a L H') : Ext H H' := fun b hb => k.rest b fun z => hb (k.new b z)

theorem kid_cases (k : Int) : ∀ L : List Kid, (dget (kidR L) k = none ∧ (∀ v, dset (kidR L) k v = kidR L ++ [(k, v)]) ∧ ∀ l, cadd (kidL L) k l = kidL L ++ [(k, [l])]) ∨
    ∃ L1 p xs L2, L = L1 ++ (k, p, xs) :: L2 ∧ dget (kidR L) k = some (.ref p) ∧ ∀ l, cadd (kidL L) k l = kidL (L1 ++ (k, p, xs ++ [l]) :: L2)
  | [] => .inl ⟨rfl, fun _ => rfl, fun _ => rfl⟩
  | (j, p, xs) :: L => by
    by_cases q : k = j
    · subst q
      refine .inr ⟨[], p, xs, L, rfl, by simp [kidR, dget], fun l => by simp [kidL, cadd]⟩
    · rcases kid_cases k L with ⟨h1, h2, h3⟩ | ⟨L1, p', xs', L2, h1, h2, h3⟩
      · refine .inl ⟨?_, fun v => ?_, fun l => ?_⟩
        · show (if k = j then _ else dget (kidR L) k) = none
          rw [if_neg q, h1]
        · show (if k = j then _ else (j, AVal.ref p) :: dset (kidR L) k v) = _
          rw [if_neg q, h2]; rfl
        · show (if k = j then _ else (j, xs) :: cadd (kidL L) k l) = _
          rw [if_neg q, h3]; rfl
      · refine .inr ⟨(j, p, xs) :: L1, p', xs', L2, by rw [h1]; rfl, ?_, fun l => ?_⟩
        · show (if k = j then _ else dget (kidR L) k) = _
          rw [if_neg q, h2]
        · show (if k = j then _ else (j, xs) :: cadd (kidL L) k l) = _
          rw [if_neg q, h3]; rfl

theorem KidsAt.new_ {H H' : AHeap} {a p : Addr} {L : List Kid} {k l : Int} (K : KidsAt H a L H') (hp : H' p = none) {o : AObj} :
    KidsAt H a (L ++ [(k, p, [l])]) (upd (upd (upd H' p (some o)) a (some (.dict (kidR L ++ [(k, .ref p)])))) p (some (.list (intsL [l])))) := by
  have pa : p ≠ a := fun z => by rw [z, K.dict] at hp; cases hp
  have pL : p ∉ kidA L := fun z => by
    obtain ⟨t, ht, e⟩ := List.mem_map.mp z
    have := K.list t ht
    rw [e, hp] at this; cases this
  have pn : H p = none := by
    rw [← K.rest p fun z => by
      rcases List.mem_cons.mp z with z | z
      · exact pa z
      · exact pL z]; exact hp
  have e : kidA (L ++ [(k, p, [l])]) = kidA L ++ [p] := by simp [kidA]
  refine ⟨?_, fun b hb => ?_, ?_, fun t ht => ?_, fun b hb => ?_⟩
  · rw [e]
    have := K.nd
    simp only [List.nodup_cons, List.mem_append, List.mem_singleton, not_or] at this ⊢
    refine ⟨⟨this.1, Ne.symm pa⟩, ?_⟩
    rw [List.nodup_append]
    exact ⟨this.2, by simp, fun x hx y hy => by
      rw [List.mem_singleton] at hy; subst hy; exact fun z => pL (z ▸ hx)⟩
  · rw [e] at hb
    rcases List.mem_cons.mp hb with z | z
    · exact K.new b (z ▸ .head _)
    · rcases List.mem_append.mp z with z | z
      · exact K.new b (.tail _ z)
      · rw [List.mem_singleton.mp z]; exact pn
  · rw [upd_ne _ _ (Ne.symm pa), upd_self]; simp [kidR]
  · rcases List.mem_append.mp ht with z | z
    · have hne : t.2.1 ≠ p := fun q => pL (q ▸ List.mem_map_of_mem z)
      have hna : t.2.1 ≠ a := fun q => (List.nodup_cons.mp K.nd).1 (q ▸ List.mem_map_of_mem z)
      rw [upd_ne _ _ hne, upd_ne _ _ hna, upd_ne _ _ hne]; exact K.list t z
    · rw [List.mem_singleton.mp z]; exact upd_self ..
  · rw [e] at hb
    have h1 : b ≠ p := fun q => hb (by rw [q]; simp)
    have h2 : b ≠ a := fun q => hb (by rw [q]; simp)
    rw [upd_ne _ _ h1, upd_ne _ _ h2, upd_ne _ _ h1]
    exact K.rest b fun z => hb (by
      rcases List.mem_cons.mp z with z | z
      · rw [z]; exact .head _
      · exact .tail _ (List.mem_append_left _ z))

theorem KidsAt.more {H H' : AHeap} {a p : Addr} {L1 L2 : List Kid} {k l : Int} {xs : List Int} (K : KidsAt H a (L1 ++ (k, p, xs) :: L2) H') :
    KidsAt H a (L1 ++ (k, p, xs ++ [l]) :: L2) (upd H' p (some (.list (intsL (xs ++ [l]))))) := by
  have e : kidA (L1 ++ (k, p, xs ++ [l]) :: L2) = kidA (L1 ++ (k, p, xs) :: L2) := by simp [kidA]
  have er : kidR (L1 ++ (k, p, xs ++ [l]) :: L2) = kidR (L1 ++ (k, p, xs) :: L2) := by simp [kidR]
  have hp : p ∈ kidA (L1 ++ (k, p, xs) :: L2) := by simp [kidA]
  have pa : p ≠ a := fun q => (List.nodup_cons.mp K.nd).1 (q ▸ hp)
  have nd2 := (List.nodup_cons.mp K.nd).2
  have nd3 : (kidA L1 ++ p :: kidA L2).Nodup := by simpa [kidA] using nd2
  refine ⟨by rw [e]; exact K.nd, by rw [e]; exact K.new, by rw [er, upd_ne _ _ (Ne.symm pa)]; exact K.dict, fun t ht => ?_, fun b hb => ?_⟩
  · have key : ∀ t' ∈ L1 ++ L2, t'.2.1 ≠ p := fun t' h' q => by
      rw [List.nodup_append] at nd3
      obtain ⟨n1, n2, n3⟩ := nd3
      rcases List.mem_append.mp h' with z | z
      · exact n3 _ (List.mem_map_of_mem z) p (.head _) q
      · exact (List.nodup_cons.mp n2).1 (q ▸ List.mem_map_of_mem z)
    rcases List.mem_append.mp ht with z | z
    · rw [upd_ne _ _ (key t (List.mem_append_left _ z))]; exact K.list t (List.mem_append_left _ z)
    · rcases List.mem_cons.mp z with z | z
      · rw [z]; exact upd_self ..
      · rw [upd_ne _ _ (key t (List.mem_append_right _ z))]; exact K.list t (List.mem_append_right _ (.tail _ z))
  · rw [e] at hb
    rw [upd_ne _ _ fun q => hb (by rw [q]; exact .tail _ hp)]; exact K.rest b hb

theorem KidsAt.len {H H' : AHeap} {a : Addr} {L : List Kid} (_ : KidsAt H a L H') : (kidR L).length = L.length := by simp [kidR]

theorem KidsAt.start {H : AHeap} {a : Addr} (h : H a = none) : KidsAt H a [] (upd H a (some (.dict []))) :=
  ⟨by simp [kidA], fun b hb => (show b = a by simpa [kidA] using hb) ▸ h, upd_self .., fun t ht => (nomatch ht), fun b hb => upd_ne _ _ fun q => hb (q ▸ .head _)⟩

theorem KidsAt.froze {H H' : AHeap} {a : Addr} {L : List Kid} (K : KidsAt H a L H') : Froze H' (.ref a) H (.dct (kv (kidL L))) := by
  have step : ∀ n, n ≤ L.length → ∃ H'', Froze H' (.ref a) H'' (.ref a) ∧ H'' a = some (.dict (kv (kidL (L.take n)) ++ kidR (L.drop n))) ∧ (∀ t ∈ L.drop n, H'' t.2.1 = some (.list (intsL t.2.2))) ∧ ∀ b, b ∉ a :: kidA (L.drop n) → H'' b = H b := by
    intro n
    induction n with
    | zero => intro _; exact ⟨H', .refl, by simpa [kidL, kv] using K.dict, K.list, K.rest⟩
    | succ n ih =>
      intro hn
      obtain ⟨H'', f, h1, h2, h3⟩ := ih (Nat.le_of_succ_le hn)
      have hlt : n < L.length := hn
      have ed : L.drop n = L[n] :: L.drop (n + 1) := List.drop_eq_getElem_cons hlt
      have et : L.take (n + 1) = L.take n ++ [L[n]] := by rw [List.take_add_one]; simp [hlt]
      obtain ⟨⟨k, p, xs⟩, hL⟩ : ∃ t, L[n] = t := ⟨_, rfl⟩
      rw [hL] at ed et
      have hlen : (kv (kidL (L.take n))).length = n := by simp [kv, kidL]; lia
      have hp := h2 (k, p, xs) (by rw [ed]; exact .head _)
      have pm : p ∈ kidA L := List.mem_map.mpr ⟨(k, p, xs), by rw [← hL]; exact List.getElem_mem hlt, rfl⟩
      have pa : p ≠ a := fun q => (List.nodup_cons.mp K.nd).1 (q ▸ pm)
      have nd : (kidA (L.drop n)).Nodup := by
        have := (List.nodup_cons.mp K.nd).2
        unfold kidA at this ⊢
        rw [List.map_drop]; exact this.sublist (List.drop_sublist _ _)
      rw [ed] at nd
      have pn : p ∉ kidA (L.drop (n + 1)) := (List.nodup_cons.mp nd).1
      refine ⟨_, .trans f (.entry (i := n) (k := k) (p := p) (xs := intsL xs) h1 ?_ hp), ?_, fun t ht => ?_, fun b hb => ?_⟩
      · rw [List.getElem?_append_right (by lia), hlen, ed]; simp [kidR]
      · rw [upd_self, List.set_append_right _ _ (by lia), hlen, ed, et]
        simp [kidR, kv, kidL]
      · have h4 : t.2.1 ≠ p := fun q => pn (q ▸ List.mem_map_of_mem ht)
        have h5 : t.2.1 ≠ a := fun q => (List.nodup_cons.mp K.nd).1 (q ▸ List.mem_map_of_mem (List.mem_of_mem_drop ht))
        rw [upd_ne _ _ h5, upd_ne _ _ h4]; exact h2 t (by rw [ed]; exact .tail _ ht)
      · have h4 : b ≠ a := fun q => hb (by rw [q]; exact .head _)
        rw [upd_ne _ _ h4]
        by_cases h5 : b = p
        · rw [h5, upd_self]; exact (K.new p (.tail _ pm)).symm
        · rw [upd_ne _ _ h5]
          refine h3 b fun z => ?_
          rw [ed] at z
          rcases List.mem_cons.mp z with z | z
          · exact h4 z
          · rcases List.mem_cons.mp z with z | z
            · exact h5 z
            · exact hb (.tail _ z)
  obtain ⟨H'', f, h1, _, h3⟩ := step L.length (Nat.le_refl _)
  rw [List.take_length, List.drop_length] at h1
  rw [show kidR [] = [] from rfl, List.append_nil] at h1
  have e : upd H'' a none = H := by
    funext b
    by_cases hb : b = a
    · rw [hb, upd_self]; exact (K.new a (.head _)).symm
    · rw [upd_ne _ _ hb]
      refine h3 b fun z => ?_
      rw [List.drop_length] at z
      exact hb (by simpa [kidA] using z)
  have := Froze.trans f (.dict h1)
  rw [e] at this; exact this

section
variable {B : Base} {H H' : AHeap} {d : Nat} {sc : Scope} {ρ : Loc}

theorem W1_kid {f x : Str} {e1 : Expr} {p1 p2 p3 p4 p5 p6 p7 p8 : Pos} {a : Addr} {L : List Kid} {k l : Int} {Q : Fl → Loc → AHeap → Prop} (hf : lget ρ f = some (.ref a)) (hx : lget ρ x = some (.int l)) (K : KidsAt H a L H') (hz : L.length ≤ 100) (hzz : ∀ t ∈ L, t.2.2.length ≤ 100)
    (he : W B d sc ρ e1 (fun v H₂ => v = .int k ∧ H₂ = H') H')
    (q : ∀ L' H'', KidsAt H a L' H'' → kidL L' = cadd (kidL L) k l → Q .next ρ H'')
    (d1 : (f == ("__debug__" : Str)) = false) (d2 : (f == ("__classdict__" : Str)) = false) (d3 : (x == ("__debug__" : Str)) = false) (d4 : (x == ("__classdict__" : Str)) = false)
    (hl1 : (p5.endLine == p7.line) = true) (hl2 : (p2.endLine == p4.line) = true)
    (hb1 : ∀ env, attributeBase (.Call (.Attribute (.Name f p1) "setdefault" p2) [e1, .List [] p3] [] p4) "append" env (eval (.Call (.Attribute (.Name f p1) "setdefault" p2) [e1, .List [] p3] [] p4) env) = eval (.Call (.Attribute (.Name f p1) "setdefault" p2) [e1, .List [] p3] [] p4) env)
    (hp : ∀ env pos, (backTo pos (starEach [e1, .List [] p3] env)).any (·.1) = false) (hs : ∀ env, starEach [e1, .List [] p3] env = (false, eval e1 env) :: starEach [.List [] p3] env) :
    W1 B d sc ρ (.Expr (.Call (.Attribute (.Call (.Attribute (.Name f p1) "setdefault" p2) [e1, .List [] p3] [] p4) "append" p5) [.Name x p6] [] p7) p8) Q H' := by
  refine W1_expr (W_append (W_setdefault (W_var hf ⟨a, _, rfl, K.dict, W_mono he fun v H₂ ⟨h1, h2⟩ => ⟨k, h1, ?_⟩⟩ d1 d2) (by intro _; with_unfolding_all rfl) hl2 hp hs) hb1 hl1) (by intro _; with_unfolding_all rfl)
  subst h2
  rcases kid_cases k L with ⟨c1, c2, c3⟩ | ⟨L1, p, xs, L2, c1, c2, c3⟩
  · refine W_list (WL_nil ⟨by simp, fun p hp => ?_⟩)
    have pa : p ≠ a := fun z => by rw [z, K.dict] at hp; cases hp
    refine ⟨_, by rw [upd_ne _ _ (Ne.symm pa)]; exact K.dict, by rw [K.len]; lia, ?_⟩
    rw [c1]
    refine ⟨p, _, rfl, by rw [upd_ne _ _ pa, upd_self], W_var hx ⟨_, by rw [upd_ne _ _ pa, upd_self], by simp, rfl, ?_⟩ d3 d4⟩
    rw [c2]
    refine q (L ++ [(k, p, [l])]) _ (K.new_ hp) ?_
    rw [c3]; simp [kidL]
  · refine W_lst (WL_nil ⟨by simp, _, K.dict, by rw [K.len]; lia, ?_⟩)
    rw [c2]
    have hp := K.list (k, p, xs) (by rw [c1]; simp)
    have hxs := hzz (k, p, xs) (by rw [c1]; simp)
    dsimp only at hxs
    refine ⟨p, _, rfl, hp, W_var hx ⟨_, hp, by simp [intsL]; lia, rfl, ?_⟩ d3 d4⟩
    subst c1
    rw [← intsL_one, ← intsL_append]
    exact q _ _ K.more (c3 l).symm
end


theorem cadd_size {n : Nat} (k x : Int) : ∀ {m : List (Int × List Int)}, m.length ≤ n → (∀ t ∈ m, t.2.length ≤ n) → (cadd m k x).length ≤ n + 1 ∧ ∀ t ∈ cadd m k x, t.2.length ≤ n + 1 := by
  have h1 : ∀ m : List (Int × List Int), (cadd m k x).length ≤ m.length + 1 := by
    intro m
    induction m with
    | nil => simp [cadd]
    | cons p m ih =>
      obtain ⟨j, xs⟩ := p
      unfold cadd
      split
      · simp
      · simp only [List.length_cons]; lia
  have h2 : ∀ m : List (Int × List Int), (∀ t ∈ m, t.2.length ≤ n) → ∀ t ∈ cadd m k x, t.2.length ≤ n + 1 := by
    intro m
    induction m with
    | nil => intro _ t ht; simp [cadd] at ht; subst ht; simp
    | cons p m ih =>
      obtain ⟨j, xs⟩ := p
      intro h t ht
      unfold cadd at ht
      split at ht
      · rcases List.mem_cons.mp ht with z | z
        · subst z; have := h (j, xs) (.head _); simp only [List.length_append, List.length_singleton] at this ⊢; lia
        · exact Nat.le_succ_of_le (h t (.tail _ z))
      · rcases List.mem_cons.mp ht with z | z
        · subst z; exact Nat.le_succ_of_le (h _ (.head _))
        · exact ih (fun t h' => h t (.tail _ h')) t z
  intro m a b
  exact ⟨Nat.le_trans (h1 m) (by lia), h2 m b⟩
theorem kidsOf_snoc (rs : List (Int × RowR)) (p : Int × RowR) : kidsOf (rs ++ [p]) = if p.2.parent ≥ 0 then cadd (kidsOf rs) p.2.parent p.1 else kidsOf rs := by
  unfold kidsOf; rw [List.foldl_append]; rfl
theorem kidsOf_size (rs : List (Int × RowR)) : ∀ i, i ≤ rs.length → (kidsOf (rs.take i)).length ≤ i ∧ ∀ t ∈ kidsOf (rs.take i), t.2.length ≤ i
  | 0, _ => ⟨by simp [kidsOf], fun t ht => by simp [kidsOf] at ht⟩
  | i + 1, h => by
    obtain ⟨h1, h2⟩ := kidsOf_size rs i (Nat.le_of_succ_le h)
    have hi : rs[i]? = some rs[i] := by simp
    rw [take_snoc hi, kidsOf_snoc]
    split
    · exact cadd_size _ _ h1 h2
    · exact ⟨Nat.le_succ_of_le h1, fun t ht => Nat.le_succ_of_le (h2 t ht)⟩

section
variable {B : Base} {H H' : AHeap} {d : Nat} {sc : Scope} {ρ : Loc}

theorem childrenOf_spec (T : Facts B) {v : AVal} {rs : List (Int × RowR)} {Q : AVal → AHeap → Prop} (hp : IsPrg T H v rs) (ok : RowsOK rs) (sm : RowsSm rs) (q : Q (.dct (kv (kidsOf rs))) H) : CallG B (d + 2) "children_of" [v] Q H := by
  refine CallG.freeze (fn_start T 25 ["program"] (by decide) (by decide +kernel) (by ktf_call q_bind) (by decide +kernel) rfl ?_)
  have smlen := sm.len
  ktf_call q_z
  ktf_call q_s
  refine W_dict0 fun a h1 => ?_
  ktf_call q_mm
  refine W1_forLabelsJ T hp ok (fun i H' => ∃ L, KidsAt H a L H' ∧ kidL L = kidsOf (rs.take i)) (fun i H' ⟨L, K, _⟩ => K.ext) ⟨[], .start h1, rfl⟩ (by decide +kernel) (by decide) (fun i k r H' hr hm ⟨L, K, e⟩ => ?_) fun H' ⟨L, K, e⟩ => ?_
  · refine WS_cons ?_
    have hi : i < rs.length := (List.getElem?_eq_some_iff.mp hr).1
    ktf_call q_s
    refine W_attrI ?_ (by intro _; with_unfolding_all rfl)
    refine W_block T hp K.ext ok hr (by ktf_call q_lget) (by ktf_call q_lget) (by decide) fun b hb => ?_
    have hb2 := hb.ext K.ext
    obtain ⟨os, lv, ib, io, il⟩ := hb2
    ktf_call q_attr
    ktf_call q_mm
    obtain ⟨s1, s2⟩ := kidsOf_size rs i (Nat.le_of_lt hi)
    rw [← e] at s1 s2
    refine ⟨fun hc => ?_, fun hc => ?_⟩
    · refine WS_cons (W1_kid (k := r.parent) (l := k) (L := L) (a := a) (by ktf_call q_lget) (by ktf_call q_lget) K (by simp [kidL] at s1; lia) (fun t ht => ?_) ?_ (fun L' H'' K' e' => ?_) (by decide +kernel) (by decide +kernel) (by decide +kernel) (by decide +kernel) (by decide) (by decide) (by intro _; with_unfolding_all rfl) (by intro _ _; with_unfolding_all rfl) (by intro _; with_unfolding_all rfl))
      · have := s2 (t.1, t.2.2) (List.mem_map.mpr ⟨t, ht, rfl⟩)
        dsimp only at this; lia
      · ktf_call q_mm
        exact ⟨rfl, rfl⟩
      · ktf_call q_mm
        refine ⟨L', K', ?_⟩
        rw [take_snoc hr, kidsOf_snoc, if_pos (of_decide_eq_true hc), e', e]
    · ktf_call q_mm
      refine ⟨L, K, ?_⟩
      rw [take_snoc hr, kidsOf_snoc, if_neg (of_decide_eq_false hc), e]
  · ktf_call q_mm
    refine ⟨_, _, K.froze, ?_⟩
    rw [e, List.take_length]; exact q
end


/-! ## the tree of the blocks, and what is reached -/

noncomputable def rowLeads (r : RowR) : List Int := lastTargets r.last ++ r.ops.flatMap (·.labels)
structure RowsTree (rs : List (Int × RowR)) : Prop where
  nonneg : ∀ p ∈ rs, 0 ≤ p.1
  par : ∀ p ∈ rs, p.2.parent = -1 ∨ (p.2.parent < p.1 ∧ ∃ r, (p.2.parent, r) ∈ rs)
  leads : ∀ p ∈ rs, ∀ l ∈ rowLeads p.2, ∃ r, (l, r) ∈ rs
  entry : ∃ r, ((10 : Int), r) ∈ rs

inductive Above (rs : List (Int × RowR)) : Int → List Int → Prop
  | stop {k : Int} : k < 0 → Above rs k []
  | step {k : Int} {r : RowR} {l : List Int} : 0 ≤ k → (k, r) ∈ rs → Above rs r.parent l → Above rs k (k :: l)

theorem above_ex {rs : List (Int × RowR)} (tr : RowsTree rs) : ∀ (n : Nat) (k : Int), k.toNat ≤ n → (∃ r, (k, r) ∈ rs) → ∃ l, Above rs k l
  | n, k, hk, ⟨r, hr⟩ => by
    have h0 := tr.nonneg _ hr
    dsimp only at h0
    rcases tr.par _ hr with e | ⟨e1, e2⟩
    · exact ⟨[k], .step h0 hr (.stop (by dsimp only at e; lia))⟩
    · dsimp only at e1 e2
      obtain ⟨r2, hr2⟩ := e2
      have h2 := tr.nonneg _ hr2
      dsimp only at h2
      match n with
      | 0 => lia
      | n + 1 =>
        obtain ⟨l, hl⟩ := above_ex tr n r.parent (by lia) ⟨r2, hr2⟩
        exact ⟨k :: l, .step h0 hr hl⟩

inductive Reach (rs : List (Int × RowR)) : Int → Prop
  | entry : Reach rs 10
  | step {k l : Int} {r : RowR} : Reach rs k → (k, r) ∈ rs → l ∈ rowLeads r → Reach rs l

section
variable {B : Base} {H H' : AHeap} {d : Nat} {sc : Scope} {ρ : Loc}

theorem sees_spec (T : Facts B) {v : AVal} {rs : List (Int × RowR)} {k o : Int} {l : List Int} {Q : AVal → AHeap → Prop} (hp : IsPrg T H v rs) (ok : RowsOK rs) (ha : Above rs k l) (ho : 0 ≤ o) (q : Q (.bool (decide (o ∈ l))) H) :
    CallG B (d + 2) "sees" [v, .int k, .int o] Q H := by
  refine fn_start T 24 ["program", "label", "other"] (by decide) (by decide +kernel) (by ktf_call q_bind) (by decide +kernel) rfl ?_
  ktf_call q_z
  ktf_call q_mm
  refine W1_while (fun n ρ₁ H₁ => ∃ h l', ρ₁ = ([("program", v), ("label", .int k), ("other", .int o), ("here", .int h)] : Loc) ∧ H₁ = H ∧ Above rs h l' ∧ n = l'.length ∧ (o ∈ l ↔ o ∈ l')) ⟨_, _, .refl _, k, l, rfl, rfl, ha, rfl, .rfl⟩ ?_
  rintro n ρ₁ H₁ ⟨h, l', rfl, rfl, ha', rfl, he⟩
  ktf_call q_mm
  refine ⟨fun hc => ⟨fun z => (nomatch z), fun _ => ?_⟩, fun hc => ?_⟩
  · have hlt := of_decide_eq_false hc
    ktf_call q_mm
    cases ha' with
    | step h0 => lia
    | stop h0 =>
      have e1 : (h == o) = false := by rw [beq_eq_false_iff_ne]; lia
      rw [e1]
      have e2 : decide (o ∈ l) = false := by rw [decide_eq_false_iff_not, he]; simp
      rw [e2] at q; exact q
  · have hge := of_decide_eq_true hc
    ktf_call q_mm
    refine ⟨fun hc2 => ⟨fun z => (nomatch z), fun _ => ?_⟩, fun hc2 => ?_⟩
    · have e0 : h = o := by simpa using hc2
      subst e0
      ktf_call q_mm
      cases ha' with
      | stop h0 => lia
      | step h0 =>
        have e2 : decide (h ∈ l) = true := by rw [decide_eq_true_iff, he]; simp
        rw [e2] at q
        simpa using q
    · have e0 : h ≠ o := by simpa using hc2
      ktf_call q_mm
      refine ⟨fun _ => ?_, fun z => (nomatch z)⟩
      cases ha' with
      | stop h0 => lia
      | step h0 hm ha2 =>
        rename_i r l2
        ktf_call q_mm
        obtain ⟨fs, ifs, hfs⟩ := prg_cls hp
        obtain ⟨i, hi⟩ := List.getElem?_of_mem hm
        refine ⟨T.fn 18, fs, ifs, hfs _ (by decide +kernel) (by decide +kernel), Facts.mt T 18 _ (by decide +kernel), ?_⟩
        ktf_call q_mm
        refine prgBlock_spec (d := d) T hp ok hi fun b hb => ?_
        obtain ⟨os, lv, ib, io, il⟩ := hb
        ktf_call q_mm
        refine ⟨l2.length, _, by simp, .refl _, r.parent, l2, rfl, rfl, ha2, rfl, ?_⟩
        rw [he]
        simp [Ne.symm e0]
end


theorem nodup_len {l m : List Int} (h : l.Nodup) (s : ∀ x ∈ l, x ∈ m) : l.length ≤ m.length := by
  induction l generalizing m with
  | nil => simp
  | cons x l ih =>
    obtain ⟨h1, h2⟩ := List.nodup_cons.mp h
    have hx := s x (.head _)
    have := ih (m := m.erase x) h2 fun y hy => (List.mem_erase_of_ne fun z => h1 (by rw [← z]; exact hy)).mpr (s y (.tail _ hy))
    rw [List.length_erase_of_mem hx] at this
    have hp : 0 < m.length := List.length_pos_of_mem hx
    simp only [List.length_cons]; lia

theorem Reach.key {rs : List (Int × RowR)} (tr : RowsTree rs) {k : Int} (h : Reach rs k) : ∃ r, (k, r) ∈ rs := by
  cases h with
  | entry => exact tr.entry
  | step _ hm hl => exact tr.leads _ hm _ hl
theorem key_unique {rs : List (Int × RowR)} (ok : RowsOK rs) {k : Int} {r r' : RowR} (h : (k, r) ∈ rs) (h' : (k, r') ∈ rs) : r = r' := by
  obtain ⟨i, hi⟩ := List.getElem?_of_mem h
  obtain ⟨j, hj⟩ := List.getElem?_of_mem h'
  have nd := asc_nodup ok.asc
  have e : i = j := by
    have a : (rs.map (·.1))[i]? = some k := by rw [List.getElem?_map, hi]; rfl
    have b : (rs.map (·.1))[j]? = some k := by rw [List.getElem?_map, hj]; rfl
    exact (List.getElem?_inj (List.getElem?_eq_some_iff.mp a).1 nd).mp (a.trans b.symm)
  subst e
  rw [hi] at hj; cases hj; rfl

structure RInv (rs : List (Int × RowR)) (ks ws : List Int) : Prop where
  nd : ks.Nodup
  sub : ∀ k ∈ ks, Reach rs k
  wk : ∀ k ∈ ws, k ∈ ks
  ent : (10 : Int) ∈ ks
  clo : ∀ k ∈ ks, k ∈ ws ∨ ∀ r, (k, r) ∈ rs → ∀ l ∈ rowLeads r, l ∈ ks
  wl : ws.length ≤ ks.length

theorem RInv.len {rs : List (Int × RowR)} (tr : RowsTree rs) {ks ws : List Int} (I : RInv rs ks ws) : ks.length ≤ rs.length := by
  have := nodup_len (m := rs.map (·.1)) I.nd fun k hk => by
    obtain ⟨r, hr⟩ := (I.sub k hk).key tr
    exact List.mem_map.mpr ⟨(k, r), hr, rfl⟩
  simpa using this
theorem RInv.done {rs : List (Int × RowR)} {ks : List Int} (I : RInv rs ks []) (k : Int) : k ∈ ks ↔ Reach rs k := by
  refine ⟨I.sub k, fun h => ?_⟩
  induction h with
  | entry => exact I.ent
  | step hk hm hl ih => exact ((I.clo _ ih).resolve_left fun z => nomatch z) _ hm _ hl

/-- inside a turn: the block of «k» is being read -/
structure RTurn (rs : List (Int × RowR)) (ks0 ws0 : List Int) (ks ws : List Int) (ls : List Int) : Prop where
  nd : ks.Nodup
  sub : ∀ k ∈ ks, Reach rs k
  old : ∀ k ∈ ks0, k ∈ ks
  oldw : ∀ k ∈ ws0, k ∈ ws
  wk : ∀ k ∈ ws, k ∈ ks
  new : ∀ k ∈ ks, k ∈ ks0 ∨ k ∈ ws
  leads : ∀ l ∈ ls, l ∈ ks
  size : ws.length + ks0.length = ks.length + ws0.length
theorem RTurn.start {rs : List (Int × RowR)} {ks ws : List Int} {k : Int} (I : RInv rs ks (ws ++ [k])) : RTurn rs ks ws ks ws [] :=
  ⟨I.nd, I.sub, fun _ h => h, fun _ h => h, fun x h => I.wk x (List.mem_append_left _ h), fun _ h => .inl h, fun _ h => (nomatch h), Nat.add_comm _ _⟩
theorem RTurn.old_ {rs : List (Int × RowR)} {ks0 ws0 ks ws ls : List Int} {l : Int} (I : RTurn rs ks0 ws0 ks ws ls) (h : l ∈ ks) : RTurn rs ks0 ws0 ks ws (ls ++ [l]) :=
  ⟨I.nd, I.sub, I.old, I.oldw, I.wk, I.new, fun x hx => (List.mem_append.mp hx).elim (I.leads x) fun z => by rw [List.mem_singleton.mp z]; exact h, I.size⟩
theorem RTurn.new_ {rs : List (Int × RowR)} {ks0 ws0 ks ws ls : List Int} {l : Int} (I : RTurn rs ks0 ws0 ks ws ls) (h : l ∉ ks) (hr : Reach rs l) : RTurn rs ks0 ws0 (ks ++ [l]) (ws ++ [l]) (ls ++ [l]) := by
  have s : ∀ {α : Type} {x : α} {xs ys : List α}, x ∈ xs → x ∈ xs ++ ys := fun h => List.mem_append_left _ h
  refine ⟨?_, fun x hx => ?_, fun x hx => s (I.old x hx), fun x hx => s (I.oldw x hx), fun x hx => ?_, fun x hx => ?_, fun x hx => ?_, ?_⟩
  · rw [List.nodup_append]
    exact ⟨I.nd, by simp, fun a ha b hb => by rw [List.mem_singleton] at hb; subst hb; exact fun z => h (z ▸ ha)⟩
  · rcases List.mem_append.mp hx with z | z
    · exact I.sub x z
    · rw [List.mem_singleton.mp z]; exact hr
  · rcases List.mem_append.mp hx with z | z
    · exact s (I.wk x z)
    · exact List.mem_append_right _ z
  · rcases List.mem_append.mp hx with z | z
    · exact (I.new x z).imp id s
    · exact .inr (List.mem_append_right _ z)
  · rcases List.mem_append.mp hx with z | z
    · exact s (I.leads x z)
    · exact List.mem_append_right _ z
  · simp only [List.length_append, List.length_singleton]; have := I.size; lia
theorem RTurn.fin {rs : List (Int × RowR)} (ok : RowsOK rs) {ks0 ws0 ks ws : List Int} {k : Int} {r : RowR} (I0 : RInv rs ks0 (ws0 ++ [k])) (hm : (k, r) ∈ rs) (I : RTurn rs ks0 ws0 ks ws (rowLeads r)) : RInv rs ks ws := by
  refine ⟨I.nd, I.sub, I.wk, I.old _ I0.ent, fun x hx => ?_, by have h1 := I.size; have h2 := I0.wl; simp at h2; lia⟩
  rcases I.new x hx with h | h
  · rcases I0.clo x h with z | z
    · rcases List.mem_append.mp z with z | z
      · exact .inl (I.oldw x z)
      · refine .inr fun r' hr' l hl => ?_
        rw [List.mem_singleton.mp z] at hr'
        rw [key_unique ok hr' hm] at hl
        exact I.leads l hl
    · exact .inr fun r' hr' l hl => I.old l (z r' hr' l hl)
  · exact .inl h

noncomputable def metD (ks : List Int) : List (Int × AVal) := ks.map fun k => (k, .bool true)
theorem metD_keys (ks : List Int) : (metD ks).map (·.1) = ks := by simp [metD, Function.comp_def]
theorem metD_get (ks : List Int) (k : Int) : (dget (metD ks) k).isSome = decide (k ∈ ks) := by
  induction ks with
  | nil => rfl
  | cons j ks ih =>
    show (if k = j then some (AVal.bool true) else dget (metD ks) k).isSome = _
    by_cases q : k = j
    · subst q; simp
    · rw [if_neg q, ih]; simp [q]
theorem metD_set {ks : List Int} {k : Int} (h : k ∉ ks) : dset (metD ks) k (.bool true) = metD (ks ++ [k]) := by
  rw [dset_new (by rw [metD_keys]; exact h)]; simp [metD]
theorem upd2_comm {H : AHeap} {a b : Addr} {x y : Option AObj} (h : a ≠ b) : upd (upd H a x) b y = upd (upd H b y) a x := by
  funext c
  by_cases h1 : c = b
  · subst h1; rw [upd_self, upd_ne _ _ (Ne.symm h), upd_self]
  · rw [upd_ne _ _ h1]
    by_cases h2 : c = a
    · subst h2; rw [upd_self, upd_self]
    · rw [upd_ne _ _ h2, upd_ne _ _ h2, upd_ne _ _ h1]

section
variable {B : Base} {H H' : AHeap} {d : Nat} {sc : Scope} {ρ : Loc}

theorem reached_spec (T : Facts B) {v : AVal} {rs : List (Int × RowR)} {Q : AVal → AHeap → Prop} (hp : IsPrg T H v rs) (ok : RowsOK rs) (sm : RowsSm rs) (tr : RowsTree rs)
    (q : ∀ kvs : List (Int × AVal), (kvs.map (·.1)).Nodup → (∀ k, k ∈ kvs.map (·.1) ↔ Reach rs k) → Q (.dct kvs) H) : CallG B (d + 2) "reached_labels" [v] Q H := by
  refine CallG.freeze (fn_start T 27 ["program"] (by decide) (by decide +kernel) (by ktf_call q_bind) (by decide +kernel) rfl ?_)
  have smlen := sm.len
  ktf_call q_z
  ktf_call q_s
  refine W_dict1 ?_
  have hp0 := hp
  obtain ⟨tv, tkv, ip, _, _⟩ := hp
  ktf_call q_mm
  intro am h1
  have ip2 : ∀ ob, IsInst (upd H am ob) v (T.fn 18) [("table", tv), ("entry", .int 10)] := fun ob => ip.ext (ext_upd h1)
  have ip3 := ip2 (some (.dict [(10, .bool true)]))
  ktf_call q_mm
  refine W_list ?_
  ktf_call q_mm
  refine ⟨by simp, fun aw h2 => ?_⟩
  ktf_call q_mm
  have hne : am ≠ aw := fun z => by rw [← z, upd_self] at h2; cases h2
  have h2' : H aw = none := by rwa [upd_ne _ _ (Ne.symm hne)] at h2
  let G : List Int → List Int → AHeap := fun ks ws => upd (upd H am (some (.dict (metD ks)))) aw (some (.list (intsL ws)))
  have eG : ∀ ks ws, Ext H (G ks ws) := fun ks ws b hb => by
    show upd _ _ _ _ = _
    rw [upd_ne _ _ fun (z : b = aw) => hb (by rw [z]; exact h2'), upd_ne _ _ fun (z : b = am) => hb (by rw [z]; exact h1)]
  have gw : ∀ ks ws, G ks ws aw = some (.list (intsL ws)) := fun ks ws => upd_self ..
  have gm : ∀ ks ws, G ks ws am = some (.dict (metD ks)) := fun ks ws => by
    show upd _ _ _ _ = _
    rw [upd_ne _ _ hne, upd_self]
  have uw : ∀ ks ws ws', upd (G ks ws) aw (some (.list (intsL ws'))) = G ks ws' := fun ks ws ws' => upd_upd ..
  have um : ∀ ks ws ks', upd (G ks ws) am (some (.dict (metD ks'))) = G ks' ws := fun ks ws ks' => by
    show upd (upd (upd H am _) aw _) am _ = _
    rw [upd2_comm (Ne.symm hne), upd_upd]
  refine W1_while (fun n ρ₁ H₁ => ∃ ks ws, ρ₁ = ([("program", v), ("met", .ref am), ("waiting", .ref aw)] : Loc) ∧ H₁ = G ks ws ∧ RInv rs ks ws ∧ n = rs.length - ks.length + ws.length) ⟨_, _, .refl _, [10], [10], rfl, rfl, ⟨by simp, fun k hk => by rw [List.mem_singleton.mp hk]; exact .entry, fun _ h => h, .head _, fun _ h => .inl h, Nat.le_refl _⟩, rfl⟩ ?_
  rintro n ρ₁ H₁ ⟨ks, ws, rfl, rfl, I, rfl⟩
  have lk := I.len tr
  ktf_call q_mm
  have wl := I.wl
  refine ⟨ws.length, by lia, .inl ⟨_, .inr ⟨aw, rfl, gw ks ws⟩, by simp [intsL]⟩, ?_⟩
  ktf_call q_mm
  refine ⟨fun hc => ?_, fun hc => ?_⟩
  · have hpos := of_decide_eq_true hc
    obtain ⟨ws', k, rfl⟩ : ∃ ws' k, ws = ws' ++ [k] := ⟨ws.dropLast, ws.getLast (by rintro rfl; simp at hpos), (List.dropLast_concat_getLast _).symm⟩
    obtain ⟨r, hm⟩ := (I.sub k (I.wk k (by simp))).key tr
    obtain ⟨i, hi⟩ := List.getElem?_of_mem hm
    simp only [List.length_append, List.length_singleton] at wl hpos
    ktf_call q_mm
    obtain ⟨fs, ifs, hfs⟩ := prg_cls (hp0.ext (eG ks (ws' ++ [k])))
    refine ⟨T.fn 18, fs, ifs, hfs _ (by decide +kernel) (by decide +kernel), Facts.mt T 18 _ (by decide +kernel), ?_⟩
    ktf_call q_mm
    refine ⟨aw, intsL ws', .int k, rfl, by rw [gw, intsL_append]; rfl, by simp [intsL]; lia, ?_⟩
    rw [uw]
    ktf_call q_mm
    refine prgBlock_spec (d := d) T (hp0.ext (eG ks ws')) ok hi fun b hb => ?_
    obtain ⟨os, lv, ib, io, il⟩ := hb
    have il2 : IsInst (G ks ws') lv (T.fn 12) (lastF r.last) := il
    ktf_call q_mm
    refine ⟨T.fn 12, _, il2, by rfl, Facts.mt T 12 _ (by decide +kernel), ?_⟩
    ktf_call q_mm
    refine lastTargets_spec (d := d) T il2 fun al h3 => ?_
    have ib2 : ∀ ob, IsInst (upd (G ks ws') al ob) b (T.fn 17) (blkF k r (.lst os) lv) := fun ob => ib.ext (ext_upd h3)
    ktf_call q_mm
    have i1 := ib2 (some (.list (intsL (lastTargets r.last))))
    have hops := sm.ops _ hm
    dsimp only at hops
    have hargs : ∀ j : Nat, ((r.ops.take j).flatMap (·.labels)).length ≤ r.ops.length * 2 := fun j => flat_take _ _ _ _ fun o ho => sm.labels _ hm o ho
    have hlt := lastTargets_len r.last
    refine W1_forF (fun j H' => H' = upd (G ks ws') al (some (.list (intsL (lastTargets r.last ++ (r.ops.take j).flatMap (·.labels)))))) (fun y => [("program", v), ("met", .ref am), ("waiting", .ref aw), ("block", b), ("leads", .ref al), ("op", y)]) (by decide +kernel) (by intro y; ktf_call q_lsetk) (by intro _ _; rfl) ?_
    ktf_call q_mm
    refine ⟨os, .inl rfl, by simp, fun j y H₂ hy e => ?_, fun H₂ e => ?_⟩
    · subst e
      obtain ⟨o, ho, iy⟩ := io.get hy
      have iy2 : ∀ ob, IsInst (upd (G ks ws') al ob) y (T.fn 8) (opF o (opDat o)) := fun ob => IsInst.ext iy (ext_upd h3)
      have hoa := sm.labels _ hm o (List.mem_of_getElem? ho)
      have hj := hargs j
      have iy3 := iy2 (some (.list (intsL (lastTargets r.last ++ (r.ops.take j).flatMap (·.labels)))))
      refine WS_cons ?_
      ktf_call q_mm
      refine ⟨al, _, rfl, upd_self .., ?_⟩
      ktf_call q_mm
      refine ⟨_, _, upd_self .., .inl rfl, ?_, rfl, ?_⟩
      · simp only [intsL_len, List.length_append]; lia
      ktf_call q_mm
      rw [upd_upd, take_snoc ho, List.flatMap_append, ← intsL_append, List.append_assoc]
      simp
    · subst e
      have el : lastTargets r.last ++ (r.ops.take os.length).flatMap (·.labels) = rowLeads r := by rw [io.length, List.take_length]; rfl
      rw [el]
      show WS B _ _ _ _ _ _
      refine WS_freezeL (x := "leads") (ρ' := [("program", v), ("met", .ref am), ("waiting", .ref aw), ("block", b), ("leads", .lst (intsL (rowLeads r)))]) h3 (by ktf_call q_lget) (by ktf_call q_lsetk) ?_
      refine WS_cons ?_
      refine W1_forF (fun j H' => ∃ ks2 ws2, H' = G ks2 ws2 ∧ RTurn rs ks ws' ks2 ws2 ((rowLeads r).take j)) (fun y => [("program", v), ("met", .ref am), ("waiting", .ref aw), ("block", b), ("leads", .lst (intsL (rowLeads r))), ("label", y)]) (by decide +kernel) (by intro y; ktf_call q_lsetk) (by intro _ _; rfl) ?_
      ktf_call q_mm
      refine ⟨_, .inl rfl, ⟨ks, ws', rfl, .start I⟩, fun j y H₂ hy ⟨ks2, ws2, e, It⟩ => ?_, fun H₂ ⟨ks2, ws2, e, It⟩ => ?_⟩
      · subst e
        obtain ⟨l, hl, rfl⟩ : ∃ l, (rowLeads r)[j]? = some l ∧ y = .int l := by
          unfold intsL at hy
          rw [List.getElem?_map] at hy
          cases hn : (rowLeads r)[j]? with
          | none => rw [hn] at hy; cases hy
          | some n => rw [hn] at hy; cases hy; exact ⟨n, rfl, rfl⟩
        have hr : Reach rs l := .step (I.sub k (I.wk k (by simp))) hm (List.mem_of_getElem? hl)
        refine WS_cons ?_
        ktf_call q_mm
        refine V2_notInD (.inr ⟨am, rfl, gm ks2 ws2⟩) ⟨_, rfl, ?_⟩
        rw [metD_get]
        refine ⟨fun hc2 => ?_, fun hc2 => ?_⟩
        · have hn : l ∉ ks2 := by simpa using hc2
          have hl2 : ks2.length ≤ rs.length := by
            have := nodup_len (m := rs.map (·.1)) It.nd fun k hk => by
              obtain ⟨r, hr⟩ := (It.sub k hk).key tr
              exact List.mem_map.mpr ⟨(k, r), hr, rfl⟩
            simpa using this
          have hsz := It.size
          ktf_call q_mm
          refine U3_setD (gm ks2 ws2) (by simp [metD]; lia) ?_
          rw [metD_set hn, um]
          ktf_call q_mm
          refine ⟨aw, _, rfl, gw _ _, ?_⟩
          ktf_call q_mm
          refine ⟨_, gw _ _, by simp [intsL]; lia, rfl, ?_⟩
          rw [← intsL_one, ← intsL_append, uw]
          ktf_call q_mm
          refine ⟨_, _, rfl, ?_⟩
          rw [take_snoc hl]; exact It.new_ hn hr
        · have hn : l ∈ ks2 := by simpa using hc2
          ktf_call q_mm
          refine ⟨_, _, rfl, ?_⟩
          rw [take_snoc hl]; exact It.old_ hn
      · subst e
        ktf_call q_mm
        rw [intsL_len, List.take_length] at It
        have If := RTurn.fin ok I hm It
        have lk2 := If.len tr
        have hsz := It.size
        refine ⟨_, _, ?_, ?_, ks2, ws2, rfl, rfl, If, rfl⟩
        · simp only [List.length_append, List.length_singleton]; lia
        · ktf_call q_sub
  · have hz := of_decide_eq_false hc
    obtain rfl : ws = [] := List.eq_nil_of_length_eq_zero (by lia)
    ktf_call q_mm
    have fin : Froze (G ks []) (.ref am) H (.dct (metD ks)) := by
      have f1 : Froze (G ks []) (.ref am) (upd (G ks []) aw none) (.ref am) := .drop (gw ks [])
      have e1 : upd (G ks []) aw none = upd H am (some (.dict (metD ks))) := by
        show upd (upd _ aw _) aw _ = _
        rw [upd_upd, upd_id _ _ _ (by rw [upd_ne _ _ (Ne.symm hne)]; exact h2')]
      rw [e1] at f1
      have f2 := Froze.trans f1 (.dict (upd_self ..))
      rw [upd_upd, upd_id _ _ _ h1] at f2
      exact f2
    refine ⟨_, _, fin, q _ ?_ ?_⟩
    · rw [metD_keys]; exact I.nd
    · rw [metD_keys]; exact I.done
end


/-! ## the law's own functions on rows -/

section
variable {B : Base} {H H' : AHeap} {d : Nat} {sc : Scope} {ρ : Loc}

theorem filter_nn (a b : Int) : [a, b].filter (fun n => decide (n ≥ 0)) = (if a ≥ 0 then [a] else []) ++ (if b ≥ 0 then [b] else []) := by
  simp only [List.filter_cons, List.filter_nil]
  by_cases h1 : a ≥ 0 <;> by_cases h2 : b ≥ 0 <;> simp [h1, h2]

/-- a loop that changes locals alone -/
theorem W1_forV {x : Str} {px pos : Pos} {iter : Expr} {body : List Stmt} {Q : Fl → Loc → AHeap → Prop} (ρs : Nat → Loc) (ρ' : Nat → AVal → Loc) (hx : isVar sc x = true) (e : ∀ i y, lset (ρs i) x y = ρ' i y)
    (hse : ∀ env y, foldedSetIterable iter env y = pure y) (h0 : Sub (ρs 0) ρ)
    (h : W B d sc ρ iter (fun a H₁ => ∃ xs, Iter a xs ∧ (∀ i y, xs[i]? = some y → WS B d sc (ρ' i y) body (FQ (ρs (i + 1)) (fun H' => H' = H₁) Q) H₁) ∧ Q .next (ρs xs.length) H₁) H) :
    W1 B d sc ρ (.For (.Name x px) iter body [] pos) Q H :=
  W1_forE hx hse (W_mono h fun a H₁ ⟨xs, it, step, fin⟩ => ⟨xs, ρs 0, fun i ρ₁ H' => ρ₁ = ρs i ∧ H' = H₁, it, h0, ⟨rfl, rfl⟩, fun i y ρ₁ H₂ hy ⟨e1, e2⟩ => by
    subst e1 e2
    rw [e]
    refine WS_mono (step i y hy) fun fl ρ₂ H₃ q => ?_
    cases fl with
    | next => exact ⟨_, q.1, rfl, q.2⟩
    | ret v => exact q, fun ρ₁ H₂ ⟨e1, e2⟩ => by subst e1 e2; exact fin⟩)

theorem ops_at {r : RowR} {i : Nat} {y : AVal} (e : (r.ops.map opT)[i]? = some y) : ∃ o, r.ops[i]? = some o ∧ y = opT o := by
  rw [List.getElem?_map] at e
  cases h : r.ops[i]? with
  | none => rw [h] at e; cases e
  | some o => rw [h] at e; cases e; exact ⟨o, rfl, rfl⟩

theorem leads_spec (T : Facts B) {r : RowR} {Q : AVal → AHeap → Prop} (hz : r.ops.length ≤ 2) (hl : ∀ o ∈ r.ops, o.labels.length ≤ 2) (q : Q (.lst (intsL (rowLeads r))) H) : CallG B (d + 1) "_law_leads" [rowT r] Q H := by
  refine fn_start T 40 ["row"] (by decide) (by decide +kernel) (by ktf_call q_bind) (by decide +kernel) rfl ?_
  ktf_call q_z
  refine W1_comp1If (fun y => [("label", y)]) (fun w => [("row", rowT r), ("found", w)]) (by intro w; ktf_call q_lsetk) (by decide +kernel) (by decide +kernel) (by decide +kernel) (by intro _ _; rfl) ?_
  ktf_call q_mm
  refine ⟨by simp, Comp1If.ints [r.last.to, r.last.other] [] (.inr (.inl rfl)) (by simp) (Sub.nil _) (fun _ hp => (nomatch hp)) (fun y => rfl) (fun y => Sub.nil _) (fun n => ?_) (fun n => ?_) ?_⟩
  · ktf_call q_mm
    exact ⟨rfl, rfl⟩
  · ktf_call q_mm
    exact ⟨rfl, rfl⟩
  rw [filter_nn]
  ktf_call q_mm
  have hlt := lastTargets_len r.last
  refine W1_forV (fun i => [("row", rowT r), ("found", .lst (intsL (lastTargets r.last ++ (r.ops.take i).flatMap (·.labels))))]) (fun i y => [("row", rowT r), ("found", .lst (intsL (lastTargets r.last ++ (r.ops.take i).flatMap (·.labels)))), ("op", y)]) (by decide +kernel) (by intro i y; ktf_call q_lsetk) (by intro _ _; rfl) ?_ ?_
  · simp only [List.take_zero, List.flatMap_nil, List.append_nil]; exact Sub.refl _
  ktf_call q_mm
  refine ⟨_, .inl rfl, fun i y hy => ?_, ?_⟩
  · obtain ⟨o, ho, rfl⟩ := ops_at hy
    have h1 := hl o (List.mem_of_getElem? ho)
    have h2 := flat_take (fun o : OpR => o.labels) r.ops i 2 hl
    refine WS_cons ?_
    ktf_call q_mm
    refine V2_addL (.inl rfl) (.inl rfl) ?_ ?_
    · ktf_call q_mm
      refine FQ_next ?_ rfl
      rw [take_snoc ho, List.flatMap_append, ← List.append_assoc, intsL_append]
      simp only [List.flatMap_cons, List.flatMap_nil, List.append_nil]
      ktf_call q_sub
    · simp only [intsL_len, List.length_append]; lia
  · ktf_call q_mm
    rw [List.length_map, List.take_length]; exact q

theorem counted_spec (T : Facts B) {ns : List Int} {Q : AVal → AHeap → Prop} (hz : ns.length ≤ 10000) (q : Q (.dct (zv (tally ns))) H) : CallG B (d + 1) "_law_counted" [.lst (intsL ns)] Q H := by
  refine CallG.freeze (fn_start T 41 ["things"] (by decide) (by decide +kernel) (by ktf_call q_bind) (by decide +kernel) rfl ?_)
  ktf_call q_z
  ktf_call q_s
  refine W_dict0 fun a h1 => ?_
  ktf_call q_mm
  refine W1_bump (f := "found") (a := a) (by ktf_call q_lget) (by rfl) (by decide +kernel) (by intro _ _; rfl) ?_ (by decide +kernel) (by decide +kernel) (by decide +kernel) (by decide +kernel) (by decide)
  ktf_call q_mm
  refine ⟨ns, [], _, .inl rfl, upd_self .., by simp; lia, upd_upd .., ?_⟩
  ktf_call q_mm
  exact froze_dict h1 q

theorem reads_spec (T : Facts B) {rs : List (Int × RowR)} {Q : AVal → AHeap → Prop} (ok : RowsOK rs) (sm : RowsSm rs) (q : Q (.lst (intsL (rs.flatMap fun p => rowReads p.2))) H) : CallG B (d + 1) "_law_reads" [rowsT rs] Q H := by
  refine fn_start T 39 ["rows"] (by decide) (by decide +kernel) (by ktf_call q_bind) (by decide +kernel) rfl ?_
  have smlen := sm.len
  ktf_call q_z
  ktf_call q_s
  refine W_lst (WL_nil ⟨by simp, ?_⟩)
  ktf_call q_mm
  refine W1_forV (fun i => [("rows", rowsT rs), ("found", .lst (intsL ((rs.take i).flatMap fun p => rowReads p.2)))]) (fun i y => [("rows", rowsT rs), ("found", .lst (intsL ((rs.take i).flatMap fun p => rowReads p.2))), ("label", y)]) (by decide +kernel) (by intro i y; ktf_call q_lsetk) (by intro _ _; rfl) (Sub.refl _) ?_
  ktf_call q_mm
  refine ⟨_, .inl rfl, by have := ok.len; simp; lia, ?_⟩
  rw [rows_keys, sortZ_id (asc_le ok.asc)]
  refine ⟨_, .inl rfl, fun i y hy => ?_, ?_⟩
  · obtain ⟨k, r, rfl, hr⟩ := key_at hy
    have hm := List.mem_of_getElem? hr
    have hbase : ((rs.take i).flatMap fun p => rowReads p.2).length ≤ rs.length * 8 := flat_take _ _ _ _ fun p hp => rowReads_len sm hp
    have hops := sm.ops _ hm
    dsimp only at hops
    refine WS_cons ?_
    refine W1_forV (fun j => [("rows", rowsT rs), ("found", .lst (intsL (((rs.take i).flatMap fun p => rowReads p.2) ++ (r.ops.take j).flatMap (·.args)))), ("label", .int k)]) (fun j y => [("rows", rowsT rs), ("found", .lst (intsL (((rs.take i).flatMap fun p => rowReads p.2) ++ (r.ops.take j).flatMap (·.args)))), ("label", .int k), ("op", y)]) (by decide +kernel) (by intro i y; ktf_call q_lsetk) (by intro _ _; rfl) ?_ ?_
    · simp only [List.take_zero, List.flatMap_nil, List.append_nil]; exact Sub.refl _
    ktf_call q_mm
    refine ⟨_, .inl ⟨_, k, .inl rfl, rfl, rows_dget (f := fun _ r => rowT r) ok hr⟩, ?_⟩
    ktf_call q_mm
    refine ⟨_, .inl rfl, fun j y hy => ?_, ?_⟩
    · obtain ⟨o, ho, rfl⟩ := ops_at hy
      have h1 := sm.args _ hm o (List.mem_of_getElem? ho)
      have h2 := flat_take (fun o : OpR => o.args) r.ops j 2 (sm.args _ hm)
      refine WS_cons ?_
      ktf_call q_mm
      refine V2_addL (.inl rfl) (.inl rfl) ?_ ?_
      · ktf_call q_mm
        refine FQ_next ?_ rfl
        rw [take_snoc ho, List.flatMap_append, ← List.append_assoc, intsL_append]
        simp only [List.flatMap_cons, List.flatMap_nil, List.append_nil]
        ktf_call q_sub
      · simp only [intsL_len, List.length_append]; lia
    · rw [List.length_map, List.take_length]
      ktf_call q_mm
      refine ⟨_, .inl ⟨_, k, .inl rfl, rfl, rows_dget (f := fun _ r => rowT r) ok hr⟩, ?_⟩
      ktf_call q_mm
      have h2 := flat_len (f := fun o : OpR => o.args) (n := 2) (l := r.ops) (sm.args _ hm)
      have h3 := sm.last _ hm
      dsimp only at h3
      refine V2_addL (.inl rfl) (.inl rfl) ?_ (by simp only [intsL_len, List.length_append]; lia)
      refine W_comp1If (fun y => [("var", y)]) (by decide +kernel) (by decide +kernel) (by intro _ _; rfl) ?_
      ktf_call q_mm
      refine ⟨by simp, Comp1If.ints [r.last.fun_, r.last.var] [] (.inr (.inl rfl)) (by simp) (Sub.nil _) (fun _ hp => (nomatch hp)) (fun y => rfl) (fun y => Sub.nil _) (fun n => ?_) (fun n => ?_) ?_⟩
      · ktf_call q_mm
        exact ⟨rfl, rfl⟩
      · ktf_call q_mm
        exact ⟨rfl, rfl⟩
      rw [filter_nn]
      have h4 : (if r.last.fun_ ≥ 0 then [r.last.fun_] else []).length ≤ 1 := by split <;> simp
      have h5 : (if r.last.var ≥ 0 then [r.last.var] else []).length ≤ 1 := by split <;> simp
      refine V2_addL (.inl rfl) (.inl rfl) ?_ (by simp only [intsL_len, List.length_append]; lia)
      ktf_call q_mm
      refine FQ_next ?_ rfl
      rw [take_snoc hr, List.flatMap_append, ← intsL_append, ← intsL_append]
      simp only [List.flatMap_cons, List.flatMap_nil, List.append_nil, rowReads, lastReads, List.append_assoc]
      ktf_call q_sub
  · rw [show (intsL (rs.map (·.1))).length = rs.length by simp [intsL], List.take_length]
    ktf_call q_mm
    exact q

structure RowsNN (rs : List (Int × RowR)) : Prop where
  res : ∀ p ∈ rs, ∀ o ∈ p.2.ops, o.word ≠ "fix" → 0 ≤ o.result

theorem opGiven_alt {o : OpR} (h : o.word ≠ "fix" → 0 ≤ o.result) : opGiven o = if (o.word == "fix") = true then o.results else [o.result] := by
  unfold opGiven
  split
  · rfl
  · rename_i hc
    rw [if_pos (h (by simpa using hc))]

theorem given_spec (T : Facts B) {r : RowR} {Q : AVal → AHeap → Prop} (hz : r.ops.length ≤ 2) (hp : r.params.length ≤ 2) (hr : ∀ o ∈ r.ops, o.results.length ≤ 2) (nn : ∀ o ∈ r.ops, o.word ≠ "fix" → 0 ≤ o.result) (q : Q (.lst (intsL (blkGiven r))) H) : CallG B (d + 1) "_law_given" [rowT r] Q H := by
  refine fn_start T 42 ["row"] (by decide) (by decide +kernel) (by ktf_call q_bind) (by decide +kernel) rfl ?_
  ktf_call q_z
  ktf_call q_mm
  refine ⟨_, .inl rfl, by simp [intsL]; lia, ?_⟩
  refine W_comp1If (fun y => [("var", y)]) (by decide +kernel) (by decide +kernel) (by intro _ _; rfl) ?_
  ktf_call q_mm
  refine ⟨by simp, Comp1If.ints [r.rest, r.var] [] (.inr (.inl rfl)) (by simp) (Sub.nil _) (fun _ hp => (nomatch hp)) (fun y => rfl) (fun y => Sub.nil _) (fun n => ?_) (fun n => ?_) ?_⟩
  · ktf_call q_mm
    exact ⟨rfl, rfl⟩
  · ktf_call q_mm
    exact ⟨rfl, rfl⟩
  rw [filter_nn]
  have h4 : (if r.rest ≥ 0 then [r.rest] else []).length ≤ 1 := by split <;> simp
  have h5 : (if r.var ≥ 0 then [r.var] else []).length ≤ 1 := by split <;> simp
  refine V2_addL (.inl rfl) (.inl rfl) ?_ (by simp only [intsL_len, List.length_append]; lia)
  ktf_call q_mm
  have eb : intsL r.params ++ intsL ((if r.rest ≥ 0 then [r.rest] else []) ++ if r.var ≥ 0 then [r.var] else []) = intsL (blkBinders r) := by rw [← intsL_append]; rfl
  rw [eb]
  have hbl : (blkBinders r).length ≤ 4 := by unfold blkBinders; simp only [List.length_append]; lia
  refine W1_forV (fun i => [("row", rowT r), ("begun", .lst (intsL (blkBinders r ++ (r.ops.take i).flatMap opGiven)))]) (fun i y => [("row", rowT r), ("begun", .lst (intsL (blkBinders r ++ (r.ops.take i).flatMap opGiven))), ("op", y)]) (by decide +kernel) (by intro i y; ktf_call q_lsetk) (by intro _ _; rfl) ?_ ?_
  · simp only [List.take_zero, List.flatMap_nil, List.append_nil]; exact Sub.refl _
  ktf_call q_mm
  refine ⟨_, .inl rfl, fun i y hy => ?_, ?_⟩
  · obtain ⟨o, ho, rfl⟩ := ops_at hy
    have hm := List.mem_of_getElem? ho
    have h1 := hr o hm
    have h2 := flat_take opGiven r.ops i 2 fun o ho => opGiven_le (hr o ho)
    have h3 := opGiven_le h1
    refine WS_cons ?_
    ktf_call q_mm
    refine W_mono (Q := fun x H₁ => x = .lst (intsL (opGiven o)) ∧ H₁ = H) (W_if ?_) ?_
    · ktf_call q_mm
      rw [opGiven_alt (nn o hm)]
      refine ⟨fun hc => ?_, fun hc => ?_⟩
      · ktf_call q_mm
        rw [if_pos hc]; exact ⟨rfl, rfl⟩
      · refine W_lst ?_
        ktf_call q_mm
        rw [if_neg (by rw [hc]; decide)]; exact ⟨by simp, rfl, rfl⟩
    rintro x H₁ ⟨rfl, rfl⟩
    refine V2_addL (.inl rfl) (.inl rfl) ?_ ?_
    · ktf_call q_mm
      refine FQ_next ?_ rfl
      rw [take_snoc ho, List.flatMap_append, ← List.append_assoc, intsL_append]
      simp only [List.flatMap_cons, List.flatMap_nil, List.append_nil]
      ktf_call q_sub
    · simp only [intsL_len, List.length_append]; lia
  · ktf_call q_mm
    rw [List.length_map, List.take_length]; exact q
end


/-! ## what is drawn -/

noncomputable abbrev DK (H : AHeap) (dk : Addr) (cells : List Int) (pos : Nat) : AHeap := upd H dk (some (deckO cells pos))

section
variable {B : Base} {H H' : AHeap} {d : Nat} {sc : Scope} {ρ : Loc}

theorem draw_at (T : Facts B) {dk : Addr} {cells : List Int} {pos many : Nat} {Q : AVal → AHeap → Prop} (ok : CellsOK cells) (hm : 0 < many)
    (q : ∀ r : Nat, r < many → Q (.int r) (DK H dk cells (pos + 1))) : CallG B (d + 1) "_law_draw" [.ref dk, .int many] Q (DK H dk cells pos) :=
  draw_spec T (upd_self ..) ok hm fun r hr => by rw [upd_upd]; exact q r hr

theorem rangeL_len (n : Nat) : (rangeL n).length = n := by simp [rangeL]
theorem rangeL_at {n i : Nat} {y : AVal} (e : (rangeL n)[i]? = some y) : y = .int (i : Nat) ∧ i < n := by
  have hi : i < n := by have := (List.getElem?_eq_some_iff.mp e).1; rwa [rangeL_len] at this
  refine ⟨?_, hi⟩
  unfold rangeL at e
  rw [List.getElem?_map, List.getElem?_range hi] at e
  simpa using e.symm
theorem iter_rng {n : Nat} (h : n ≤ 1000) : Iter (.rng n) (rangeL n) := .inr (.inr ⟨n, rfl, h, rfl⟩)

theorem Comp1.draws {elt : Expr} {x : Str} {ρ' : AVal → Loc} {QQ : List AVal → AHeap → Prop} {a : AVal} {scope : Scope} {D : Nat → AHeap} {P : Int → Prop} {pos0 : Nat} (n : Nat) (xs : List AVal) (ρc : Loc) (it : Iter a xs) (hl : xs.length = n) (hn : n ≤ 1000) (hs : Sub ρc ρ)
    (hf : ∀ p ∈ ρc, scope.names.lookup p.1 = some .free) (e : ∀ y, lset ρc x y = ρ' y) (hs2 : ∀ y, Sub ρc (ρ' y))
    (step : ∀ (i : Nat) (y : AVal) (pos : Nat), xs[i]? = some y → W B d (relabelS scope sc) (ρ' y) elt (fun z H₃ => ∃ i pos', z = .int i ∧ P i ∧ H₃ = D pos') (D pos))
    (q : ∀ (ns : List Int) (pos' : Nat), ns.length = n → (∀ i ∈ ns, P i) → QQ (intsL ns) (D pos')) : Comp1 B d sc ρ scope elt x ρ' QQ a (D pos0) := by
  refine ⟨xs, ρc, fun i out H₂ => ∃ ns pos', out = intsL ns ∧ ns.length = i ∧ (∀ i ∈ ns, P i) ∧ H₂ = D pos', it, hs, hf, e, hs2, ⟨[], pos0, rfl, rfl, fun _ h => (nomatch h), rfl⟩, fun i y out H₂ hy ⟨ns, pos, e1, e2, e3, e4⟩ => ?_, fun out H₂ ⟨ns, pos, e1, e2, e3, e4⟩ => ?_⟩
  · subst e1 e4
    have hi := (List.getElem?_eq_some_iff.mp hy).1
    refine W_mono (step i y pos hy) fun z H₃ ⟨j, pos', f1, f2, f3⟩ => ⟨by rw [intsL_len]; lia, ns ++ [j], pos', by rw [f1, intsL_append]; rfl, by simp [e2], fun x hx => ?_, f3⟩
    rcases List.mem_append.mp hx with h | h
    · exact e3 x h
    · rw [List.mem_singleton.mp h]; exact f2
  · subst e1 e4; exact q ns pos (e2.trans hl) e3

/-! ### the deck -/

theorem deck_spec (T : Facts B) {ns : List Int} {Q : AVal → AHeap → Prop} (hz : ns.length ≤ 63) (q : ∀ a cells, H a = none → CellsOK cells → Q (.ref a) (DK H a cells 0)) : CallG B (d + 1) "_law_deck" [.lst (intsL ns)] Q H := by
  refine fn_start T 30 ["script"] (by decide) (by decide +kernel) (by ktf_call q_bind) (by decide +kernel) rfl ?_
  ktf_call q_z
  ktf_call q_mm
  refine W_list (WL_cons (W_bin (W_comp1 (fun y => [("cell", y)]) (by decide +kernel) (by decide +kernel) (by intro _ _; rfl) (W_uptoL (k := 40) ?_))) ?_)
  · ktf_call q_mm
    refine ⟨_, .inl rfl, by rw [intsL_len]; lia, ?_⟩
    have et : (intsL ns).take 40 = intsL (ns.take 40) := by simp [intsL, List.map_take]
    rw [et]
    have hl40 : (ns.take 40).length ≤ 40 := by simp; lia
    refine Comp1.same _ (intsL ((ns.take 40).map fun c => (if c < 0 then -c else c).fmod 1000003)) [] (.inl rfl) (by simp [intsL]) (by rw [intsL_len, List.length_map]; lia) (Sub.nil _) (fun _ hp => (nomatch hp)) (fun y => rfl) (fun y => Sub.nil _) (fun j y z hy hz => ?_) ?_
    · simp only [intsL, List.getElem?_map] at hy hz
      cases hc : (ns.take 40)[j]? with
      | none => rw [hc] at hy; cases hy
      | some c =>
        rw [hc] at hy hz; cases hy; cases hz
        ktf_call q_mm
        refine V2_mod ?_ (by decide)
        exact ⟨rfl, rfl⟩
    refine W_lst (WL_cons ?_ (by intro _; with_unfolding_all rfl))
    ktf_call q_mm
    refine ⟨ns.length, by lia, .inl ⟨_, .inl rfl, intsL_len ns⟩, ?_⟩
    ktf_call q_mm
    refine ⟨by simp, ?_⟩
    refine V2_addL (.inl rfl) (.inl (by rw [← intsL_one])) ?_ (by rw [intsL_len, List.length_map, intsL_len]; simp; lia)
    rw [← intsL_append]
    ktf_call q_mm
    refine ⟨by simp, fun a h1 => ?_⟩
    ktf_call q_mm
    refine q a _ h1 ⟨by simp, by simp; lia, fun c hc => ?_⟩
    rcases List.mem_append.mp hc with h | h
    · obtain ⟨c', _, rfl⟩ := List.mem_map.mp h
      have h1 : (0 : Int) < 1000003 := by decide
      rw [Int.fmod_eq_emod_of_nonneg _ (by decide)]
      have h2 := Int.emod_nonneg (if c' < 0 then -c' else c') (b := 1000003) (by decide)
      have h3 := Int.emod_lt_of_pos (if c' < 0 then -c' else c') h1
      lia
    · have := List.mem_singleton.mp h; lia
  · intro _; with_unfolding_all rfl
end


structure OpG (keys : List Int) (o : OpR) : Prop where
  wf : OpWF o
  args : o.args.length ≤ 2
  results : o.results.length ≤ 2
  labels : o.labels.length ≤ 2
  lab : ∀ l ∈ o.labels, l ∈ keys
  nn : o.word ≠ "fix" → 0 ≤ o.result
structure LastG (keys : List Int) (l : LastR) : Prop where
  wf : LastWF l
  args : l.args.length ≤ 2
  to : l.to ≥ 0 → l.to ∈ keys
  other : l.other ≥ 0 → l.other ∈ keys

section
variable {B : Base} {H H' : AHeap} {d : Nat} {sc : Scope} {ρ : Loc}

theorem keys_at {keys : List Int} {r : Nat} (h : r < keys.length) : ∃ l, (intsL keys)[r]? = some (.int l) ∧ l ∈ keys := by
  refine ⟨keys[r], ?_, List.getElem_mem h⟩
  simp [intsL, h]
theorem Sub.one {x : Str} {v u : AVal} {y : Str} : Sub [(x, v)] [(x, v), (y, u)] := Sub.cons lget_hd (Sub.nil _)

theorem genOp_spec (T : Facts B) {dk : Addr} {cells : List Int} {pos : Nat} {var : Int} {keys : List Int} {Q : AVal → AHeap → Prop} (ok : CellsOK cells) (hv : 0 ≤ var) (hk0 : 0 < keys.length) (hk : keys.length ≤ 100)
    (q : ∀ o pos', OpG keys o → Q (opT o) (DK H dk cells pos')) : CallG B (d + 2) "_law_op" [.ref dk, .int var, .lst (intsL keys)] Q (DK H dk cells pos) := by
  refine fn_start T 32 ["deck", "var", "labels"] (by decide) (by decide +kernel) (by ktf_call q_bind) (by decide +kernel) rfl ?_
  ktf_call q_z
  ktf_call q_mm
  refine draw_at (many := 5) T ok (by decide) fun way hw => ?_
  ktf_call q_mm
  refine W1_comp1 (fun y => [("deck", .ref dk), ("turn", y)]) (fun w => [("deck", .ref dk), ("var", .int var), ("labels", .lst (intsL keys)), ("way", .int way), ("args", w)]) (by intro w; ktf_call q_lsetk) (by decide +kernel) (by decide +kernel) (by decide +kernel) (by intro _ _; rfl) ?_
  ktf_call q_mm
  refine draw_at (many := 3) T ok (by decide) fun n hn => ?_
  ktf_call q_mm
  refine Comp1.draws (D := DK H dk cells) (P := fun _ => True) n _ [("deck", .ref dk)] (iter_rng (by lia)) (rangeL_len n) (by lia) (by ktf_call q_sub) (by ktf_call q_free) (fun y => by ktf_call q_lsetk) (fun y => by ktf_call q_sub) (fun i y pos hy => ?_) fun args pos1 ha _ => ?_
  · ktf_call q_mm
    refine draw_at (many := 12) T ok (by decide) fun r hr => ?_
    ktf_call q_mm
    exact ⟨_, _, rfl, trivial, rfl⟩
  ktf_call q_mm
  have hargs : args.length ≤ 2 := by lia
  have hp6 : ∀ x : AVal, x = x := fun _ => rfl
  rcases way with _ | _ | _ | _ | _ | way
  · refine ⟨fun _ => ?_, by ktf_call q_abs⟩
    ktf_call q_mm
    refine W_lst (WL_nil ⟨by simp, ?_⟩)
    ktf_call q_mm
    refine W_lst (WL_nil ⟨by simp, ?_⟩)
    ktf_call q_mm
    refine W_lst (WL_nil ⟨by simp, ?_⟩)
    ktf_call q_mm
    refine ⟨by simp, ?_⟩
    ktf_call q_mm
    exact q ⟨"const", var, -1, [], [], []⟩ pos1 ⟨.inl ⟨rfl, rfl, rfl, rfl, rfl⟩, by simp, by simp, by simp, fun _ h => (nomatch h), fun _ => hv⟩
  · refine ⟨by ktf_call q_abs, fun _ => ?_⟩
    ktf_call q_mm
    refine ⟨fun _ => ?_, by ktf_call q_abs⟩
    ktf_call q_mm
    refine W_lst (WL_nil ⟨by simp, ?_⟩)
    ktf_call q_mm
    refine W_lst (WL_nil ⟨by simp, ?_⟩)
    ktf_call q_mm
    refine W_lst (WL_cons ?_ (by intro _; with_unfolding_all rfl))
    ktf_call q_mm
    refine ⟨keys.length, by lia, .inl ⟨_, .inl rfl, intsL_len keys⟩, ?_⟩
    ktf_call q_mm
    refine draw_at T ok hk0 fun r hr => ?_
    obtain ⟨l, hl, hlm⟩ := keys_at hr
    refine ⟨_, .inr ⟨_, r, .inl (.inl rfl), rfl, by lia, hl⟩, ?_⟩
    ktf_call q_mm
    refine ⟨by simp, ?_⟩
    ktf_call q_mm
    refine ⟨by simp, ?_⟩
    ktf_call q_mm
    exact q ⟨"fun", var, -1, [], [], [l]⟩ _ ⟨.inr (.inl ⟨rfl, rfl, rfl, rfl, l, rfl⟩), by simp, by simp, by simp, fun x h => by rw [List.mem_singleton.mp h]; exact hlm, fun _ => hv⟩
  · refine ⟨by ktf_call q_abs, fun _ => ?_⟩
    ktf_call q_mm
    refine ⟨by ktf_call q_abs, fun _ => ?_⟩
    ktf_call q_mm
    refine ⟨fun _ => ?_, by ktf_call q_abs⟩
    refine WS_cons ?_
    refine W1_comp1 (fun y => [("deck", .ref dk), ("labels", .lst (intsL keys)), ("turn", y)]) (fun w => [("deck", .ref dk), ("var", .int var), ("labels", .lst (intsL keys)), ("way", .int 2), ("args", .lst (intsL args)), ("own", w)]) (by intro w; ktf_call q_lsetk) (by decide +kernel) (by decide +kernel) (by decide +kernel) (by intro _ _; rfl) ?_
    ktf_call q_mm
    refine draw_at (many := 2) T ok (by decide) fun m hm => ?_
    refine V2_add ?_
    refine ⟨1 + m, by simp, ?_⟩
    refine Comp1.draws (D := DK H dk cells) (P := fun i => i ∈ keys) (1 + m) _ [("deck", .ref dk), ("labels", .lst (intsL keys))] (iter_rng (by lia)) (rangeL_len _) (by lia) (by ktf_call q_sub) (by ktf_call q_free) (fun y => by ktf_call q_lsetk) (fun y => by ktf_call q_sub) (fun i y pos hy => ?_) fun own pos2 ho1 ho2 => ?_
    · ktf_call q_mm
      refine ⟨keys.length, by lia, .inl ⟨_, .inl rfl, intsL_len keys⟩, ?_⟩
      ktf_call q_mm
      refine draw_at T ok hk0 fun r hr => ?_
      obtain ⟨l, hl, hlm⟩ := keys_at hr
      refine ⟨_, .inr ⟨_, r, .inl (.inl rfl), rfl, by lia, hl⟩, ?_⟩
      exact ⟨_, _, rfl, hlm, rfl⟩
    ktf_call q_mm
    refine W_lst (WL_nil ⟨by simp, ?_⟩)
    ktf_call q_mm
    refine W_comp1 (fun y => [("var", .int var), ("place", y)]) (by decide +kernel) (by decide +kernel) (by intro _ _; rfl) ?_
    ktf_call q_mm
    refine ⟨own.length, by lia, .inl ⟨_, .inl rfl, intsL_len own⟩, ?_⟩
    refine ⟨own.length, rfl, ?_⟩
    refine Comp1.same _ (intsL ((List.range own.length).map fun i => var + 50 + (i : Nat))) [("var", .int var)] (iter_rng (by lia)) (by simp [intsL, rangeL]) (by simp [intsL]; lia) (by ktf_call q_sub) (by ktf_call q_free) (fun y => by ktf_call q_lsetk) (fun y => by ktf_call q_sub) (fun j y z hy hz => ?_) ?_
    · obtain ⟨rfl, hj⟩ := rangeL_at hy
      have : z = .int (var + 50 + (j : Nat)) := by
        simp only [intsL, List.getElem?_map, List.getElem?_range hj] at hz
        simpa using hz.symm
      subst this
      ktf_call q_mm
      exact ⟨rfl, rfl⟩
    ktf_call q_mm
    refine ⟨by simp, ?_⟩
    ktf_call q_mm
    exact q ⟨"fix", -1, -1, [], _, own⟩ pos2 ⟨.inr (.inr (.inl ⟨rfl, rfl, rfl, rfl⟩)), by simp, by simp; lia, by dsimp only; lia, ho2, fun h => absurd rfl h⟩
  · refine ⟨by ktf_call q_abs, fun _ => ?_⟩
    ktf_call q_mm
    refine ⟨by ktf_call q_abs, fun _ => ?_⟩
    ktf_call q_mm
    refine ⟨by ktf_call q_abs, fun _ => ?_⟩
    ktf_call q_mm
    refine W_lst ?_
    ktf_call q_mm
    refine ⟨by simp, ?_⟩
    ktf_call q_mm
    refine ⟨_, .inr ⟨_, 0, .inl (.inl rfl), rfl, by decide, rfl⟩, ?_⟩
    ktf_call q_mm
    refine draw_at (many := 9) T ok (by decide) fun r hr => ?_
    ktf_call q_mm
    refine W_if ?_
    ktf_call q_mm
    refine ⟨fun _ => ?_, by ktf_call q_abs⟩
    ktf_call q_mm
    refine W_lst (WL_nil ⟨by simp, ?_⟩)
    ktf_call q_mm
    refine W_lst (WL_nil ⟨by simp, ?_⟩)
    ktf_call q_mm
    refine ⟨by simp, ?_⟩
    ktf_call q_mm
    exact q ⟨"prim", var, r, args, [], []⟩ _ ⟨.inr (.inr (.inr ⟨.inl rfl, rfl, rfl⟩)), hargs, by simp, by simp, fun _ h => (nomatch h), fun _ => hv⟩
  · refine ⟨by ktf_call q_abs, fun _ => ?_⟩
    ktf_call q_mm
    refine ⟨by ktf_call q_abs, fun _ => ?_⟩
    ktf_call q_mm
    refine ⟨by ktf_call q_abs, fun _ => ?_⟩
    ktf_call q_mm
    refine W_lst ?_
    ktf_call q_mm
    refine ⟨by simp, ?_⟩
    ktf_call q_mm
    refine ⟨_, .inr ⟨_, 1, .inl (.inl rfl), rfl, by decide, rfl⟩, ?_⟩
    ktf_call q_mm
    refine draw_at (many := 9) T ok (by decide) fun r hr => ?_
    ktf_call q_mm
    refine W_if ?_
    ktf_call q_mm
    refine ⟨by ktf_call q_abs, fun _ => ?_⟩
    refine W_lst (WL_nil ⟨by simp, ?_⟩)
    ktf_call q_mm
    refine W_lst (WL_nil ⟨by simp, ?_⟩)
    ktf_call q_mm
    refine W_lst (WL_nil ⟨by simp, ?_⟩)
    ktf_call q_mm
    refine ⟨by simp, ?_⟩
    ktf_call q_mm
    exact q ⟨"global", var, r, [], [], []⟩ _ ⟨.inr (.inr (.inr ⟨.inr rfl, rfl, rfl⟩)), by simp, by simp, by simp, fun _ h => (nomatch h), fun _ => hv⟩
  · lia
end


section
variable {B : Base} {H H' : AHeap} {d : Nat} {sc : Scope} {ρ : Loc}

noncomputable def notStar : Expr → Bool
  | .Starred .. => false
  | _ => true
theorem EnvOK.fnBlock {env : Env} (E : EnvOK sc env) : env.blockKind = .function := by unfold Env.blockKind; rw [E.scope, E.kind]; rfl
theorem swapped_two {env : Env} {n1 n2 : Str} {p1 p2 tp p' : Pos} {k k' : Nat} {v1 v2 : Expr} (E : EnvOK sc env) (h1 : sc.names.lookup n1 = some .local) (h2 : sc.names.lookup n2 = some .local) (hl : (p2.line == p1.line) = true) (hn : [n1, n2].eraseDups.length = 2)
    (s1 : notStar v1 = true) (s2 : notStar v2 = true) (f : [v1, v2].all (foldedForSure 8) = false) (c : [v1, v2].all (constantsAlone 8) = false) : swappedStores [.Tuple [.Name n1 p1, .Name n2 p2] k tp] (.Tuple [v1, v2] k' p') env = pure (some [n1, n2]) := by
  have ek : ∀ y, env.kindOf y = sc.names.lookup y := fun y => by unfold Env.kindOf; rw [E.scope]
  have st : ([v1, v2].any fun | .Starred .. => true | _ => false) = false := by
    have : ∀ v : Expr, notStar v = true → (match v with | .Starred .. => true | _ => false) = false := fun v h => by cases v <;> first | rfl | (simp [notStar] at h)
    simp only [List.any_cons, List.any_nil, this v1 s1, this v2 s2]; rfl
  have e1 : ((env.kindOf n1 == some NameKind.local) && (p1.line == p1.line)) = true := by rw [ek, h1]; simp
  have e2 : ((env.kindOf n2 == some NameKind.local) && (p2.line == p1.line)) = true := by rw [ek, h2, hl]; rfl
  unfold swappedStores
  dsimp only
  rw [if_neg (by rw [E.fnBlock]; simp)]
  refine (if_neg fun z => absurd (st.symm.trans z) (by decide)).trans ?_
  have l0 : (Option.map (fun (x : Expr) => x.pos.line) [Expr.Name n1 p1, Expr.Name n2 p2].head?).getD 0 = p1.line := rfl
  simp only [l0, List.filterMap_cons, List.filterMap_nil, e1, e2, if_true]
  rw [if_neg (by rw [hn]; simp), if_neg (by rw [f]; simp)]
  simp only [c]
  rfl

theorem W1_swap2 {elts : List Expr} {k : Nat} {tpos pos : Pos} {value : Expr} {n1 n2 : Str} {Q : Fl → Loc → AHeap → Prop} (ρ1 : AVal → Loc) (ρ2 : AVal → AVal → Loc) (hw : ∀ env, EnvOK sc env → swappedStores [.Tuple elts k tpos] value env = pure (some [n1, n2]))
    (e1 : ∀ y, lset ρ n2 y = ρ1 y) (e2 : ∀ x y, lset (ρ1 y) n1 x = ρ2 x y) (h : W B d sc ρ value (fun v H₁ => ∃ x y, v = .tup [x, y] ∧ Q .next (ρ2 x y) H₁) H) (hv : [n2, n1].all (isVar sc) = true)
    (hs : ∀ env, swapsWithSole [.Tuple elts k tpos] value pos.line env = pure false := by intro _; rfl) :
    W1 B d sc ρ (.Assign [.Tuple elts k tpos] value pos) Q H :=
  W1_swap hw (W_mono h fun v H₁ ⟨x, y, e, q⟩ => ⟨[x, y], e, rfl, by
    show Q .next (lset (lset ρ n2 y) n1 x) H₁
    rw [e1, e2]; exact q⟩) hv hs

theorem genLast_spec (T : Facts B) {dk : Addr} {cells : List Int} {pos : Nat} {keys : List Int} {Q : AVal → AHeap → Prop} (ok : CellsOK cells) (hk0 : 0 < keys.length) (hk : keys.length ≤ 100)
    (q : ∀ l pos', LastG keys l → Q (lastT l) (DK H dk cells pos')) : CallG B (d + 2) "_law_last" [.ref dk, .lst (intsL keys)] Q (DK H dk cells pos) := by
  refine fn_start T 33 ["deck", "labels"] (by decide) (by decide +kernel) (by ktf_call q_bind) (by decide +kernel) rfl ?_
  ktf_call q_z
  ktf_call q_mm
  refine draw_at (many := 4) T ok (by decide) fun way hw => ?_
  ktf_call q_mm
  refine W1_comp1 (fun y => [("deck", .ref dk), ("turn", y)]) (fun w => [("deck", .ref dk), ("labels", .lst (intsL keys)), ("way", .int way), ("args", w)]) (by intro w; ktf_call q_lsetk) (by decide +kernel) (by decide +kernel) (by decide +kernel) (by intro _ _; rfl) ?_
  ktf_call q_mm
  refine draw_at (many := 3) T ok (by decide) fun n hn => ?_
  ktf_call q_mm
  refine Comp1.draws (D := DK H dk cells) (P := fun _ => True) n _ [("deck", .ref dk)] (iter_rng (by lia)) (rangeL_len n) (by lia) (by ktf_call q_sub) (by ktf_call q_free) (fun y => by ktf_call q_lsetk) (fun y => by ktf_call q_sub) (fun i y pos hy => ?_) fun args pos1 ha _ => ?_
  · ktf_call q_mm
    refine draw_at (many := 12) T ok (by decide) fun r hr => ?_
    ktf_call q_mm
    exact ⟨_, _, rfl, trivial, rfl⟩
  have hargs : args.length ≤ 2 := by lia
  refine WS_cons ?_
  refine W1_swap2 (fun y => [("deck", .ref dk), ("labels", .lst (intsL keys)), ("way", .int way), ("args", .lst (intsL args)), ("other", y)]) (fun x y => [("deck", .ref dk), ("labels", .lst (intsL keys)), ("way", .int way), ("args", .lst (intsL args)), ("other", y), ("one", x)])
    (fun env E => swapped_two E (by decide +kernel) (by decide +kernel) (by decide) (by decide +kernel) (by decide +kernel) (by decide +kernel) (by decide +kernel) (by decide +kernel)) (by intro y; ktf_call q_lsetk) (by intro x y; ktf_call q_lsetk) ?_ (by decide +kernel)
  ktf_call q_mm
  refine ⟨keys.length, by lia, .inl ⟨_, .inl rfl, intsL_len keys⟩, ?_⟩
  ktf_call q_mm
  refine draw_at T ok hk0 fun r1 hr1 => ?_
  obtain ⟨one, ho1, ho2⟩ := keys_at hr1
  refine ⟨_, .inr ⟨_, r1, .inl (.inl rfl), rfl, by lia, ho1⟩, ?_⟩
  ktf_call q_mm
  refine ⟨keys.length, by lia, .inl ⟨_, .inl rfl, intsL_len keys⟩, ?_⟩
  ktf_call q_mm
  refine draw_at T ok hk0 fun r2 hr2 => ?_
  obtain ⟨oth, hh1, hh2⟩ := keys_at hr2
  refine ⟨_, .inr ⟨_, r2, .inl (.inl rfl), rfl, by lia, hh1⟩, ?_⟩
  ktf_call q_mm
  refine ⟨by simp, _, _, rfl, ?_⟩
  ktf_call q_mm
  rcases way with _ | _ | _ | _ | way
  · refine ⟨fun _ => ?_, by ktf_call q_abs⟩
    ktf_call q_mm
    refine draw_at (many := 2) T ok (by decide) fun r3 hr3 => ?_
    ktf_call q_mm
    refine draw_at (many := 12) T ok (by decide) fun r4 hr4 => ?_
    ktf_call q_mm
    rcases r3 with _ | _ | r3
    · refine W_if (WB_value ?_)
      ktf_call q_mm
      refine T1_bool ⟨fun _ => ?_, by ktf_call q_abs⟩
      ktf_call q_mm
      refine W_if (WB_value ?_)
      ktf_call q_mm
      refine T1_bool ⟨fun _ => ?_, by ktf_call q_abs⟩
      ktf_call q_mm
      refine ⟨by simp, ?_⟩
      ktf_call q_mm
      exact q ⟨"call", 1 + r4, args, one, -1, -1⟩ _ ⟨.inl ⟨rfl, rfl⟩, hargs, fun _ => ho2, fun h => absurd h (by simp)⟩
    · refine W_if (WB_value ?_)
      ktf_call q_mm
      refine T1_bool ⟨by ktf_call q_abs, fun _ => ?_⟩
      ktf_call q_mm
      refine W_if (WB_value ?_)
      ktf_call q_mm
      refine T1_bool ⟨by ktf_call q_abs, fun _ => ?_⟩
      ktf_call q_mm
      refine ⟨by simp, ?_⟩
      ktf_call q_mm
      exact q ⟨"call", 1 + r4, args, -1, -1, 3⟩ _ ⟨.inl ⟨rfl, rfl⟩, hargs, fun h => absurd h (by simp), fun h => absurd h (by simp)⟩
    · lia
  · refine ⟨by ktf_call q_abs, fun _ => ?_⟩
    ktf_call q_mm
    refine ⟨fun _ => ?_, by ktf_call q_abs⟩
    ktf_call q_mm
    refine ⟨by simp, ?_⟩
    ktf_call q_mm
    exact q ⟨"jump", -1, args, one, -1, -1⟩ _ ⟨.inr (.inl ⟨rfl, rfl, rfl, rfl⟩), hargs, fun _ => ho2, fun h => absurd h (by simp)⟩
  · refine ⟨by ktf_call q_abs, fun _ => ?_⟩
    ktf_call q_mm
    refine ⟨by ktf_call q_abs, fun _ => ?_⟩
    ktf_call q_mm
    refine ⟨fun _ => ?_, by ktf_call q_abs⟩
    ktf_call q_mm
    refine draw_at (many := 12) T ok (by decide) fun r4 hr4 => ?_
    ktf_call q_mm
    refine ⟨by simp, ?_⟩
    ktf_call q_mm
    exact q ⟨"give", -1, args, -1, -1, 1 + r4⟩ _ ⟨.inr (.inr (.inl ⟨rfl, rfl, rfl, rfl⟩)), hargs, fun h => absurd h (by simp), fun h => absurd h (by simp)⟩
  · refine ⟨by ktf_call q_abs, fun _ => ?_⟩
    ktf_call q_mm
    refine ⟨by ktf_call q_abs, fun _ => ?_⟩
    ktf_call q_mm
    refine ⟨by ktf_call q_abs, fun _ => ?_⟩
    ktf_call q_mm
    refine draw_at (many := 12) T ok (by decide) fun r4 hr4 => ?_
    ktf_call q_mm
    refine W_lst (WL_nil ⟨by simp, ?_⟩)
    ktf_call q_mm
    refine ⟨by simp, ?_⟩
    ktf_call q_mm
    exact q ⟨"if", 1 + r4, [], one, oth, -1⟩ _ ⟨.inr (.inr (.inr ⟨rfl, rfl, rfl⟩)), by simp, fun _ => ho2, fun _ => hh2⟩
  · lia
end


noncomputable def keysN (n : Nat) : List Int := (List.range n).map fun (i : Nat) => 10 + 3 * (i : Int)
theorem keysN_len (n : Nat) : (keysN n).length = n := by simp [keysN]
theorem keysN_at {n j : Nat} (h : j < n) : (keysN n)[j]? = some (10 + 3 * (j : Int)) := by unfold keysN; rw [List.getElem?_map, List.getElem?_range h]; rfl
theorem keysN_mem {n : Nat} {k : Int} : k ∈ keysN n ↔ ∃ j : Nat, j < n ∧ k = 10 + 3 * (j : Int) := by
  unfold keysN
  rw [List.mem_map]
  exact ⟨fun ⟨j, h, e⟩ => ⟨j, List.mem_range.mp h, e.symm⟩, fun ⟨j, h, e⟩ => ⟨j, List.mem_range.mpr h, e.symm⟩⟩

structure RowG (n j : Nat) (r : RowR) : Prop where
  sort : r.sort = "fun" ∨ r.sort = "cont"
  params : r.params.length ≤ 2
  opl : r.ops.length ≤ 2
  op : ∀ o ∈ r.ops, OpG (keysN n) o
  last : LastG (keysN n) r.last
  par : r.parent = -1 ∨ ∃ m : Nat, m < j ∧ r.parent = 10 + 3 * (m : Int)
structure Good (n : Nat) (rs : List (Int × RowR)) : Prop where
  len : rs.length = n
  pos : 1 ≤ n
  le : n ≤ 6
  row : ∀ (j : Nat) k r, rs[j]? = some (k, r) → k = 10 + 3 * (j : Int) ∧ RowG n j r

section
variable {B : Base} {H H' : AHeap} {d : Nat} {sc : Scope} {ρ : Loc}

theorem Comp1.gens {elt : Expr} {x : Str} {ρ' : AVal → Loc} {QQ : List AVal → AHeap → Prop} {a : AVal} {scope : Scope} {D : Nat → AHeap} {P : AVal → Prop} {pos0 : Nat} (n : Nat) (xs : List AVal) (ρc : Loc) (it : Iter a xs) (hl : xs.length = n) (hn : n ≤ 1000) (hs : Sub ρc ρ)
    (hf : ∀ p ∈ ρc, scope.names.lookup p.1 = some .free) (e : ∀ y, lset ρc x y = ρ' y) (hs2 : ∀ y, Sub ρc (ρ' y))
    (step : ∀ (i : Nat) (y : AVal) (pos : Nat), xs[i]? = some y → W B d (relabelS scope sc) (ρ' y) elt (fun z H₃ => ∃ pos', P z ∧ H₃ = D pos') (D pos))
    (q : ∀ (zs : List AVal) (pos' : Nat), zs.length = n → (∀ z ∈ zs, P z) → QQ zs (D pos')) : Comp1 B d sc ρ scope elt x ρ' QQ a (D pos0) := by
  refine ⟨xs, ρc, fun i out H₂ => ∃ pos', out.length = i ∧ (∀ z ∈ out, P z) ∧ H₂ = D pos', it, hs, hf, e, hs2, ⟨pos0, rfl, fun _ h => (nomatch h), rfl⟩, fun i y out H₂ hy ⟨pos, e2, e3, e4⟩ => ?_, fun out H₂ ⟨pos, e2, e3, e4⟩ => ?_⟩
  · subst e4
    have hi := (List.getElem?_eq_some_iff.mp hy).1
    refine W_mono (step i y pos hy) fun z H₃ ⟨pos', f2, f3⟩ => ⟨by lia, pos', by simp [e2], fun x hx => ?_, f3⟩
    rcases List.mem_append.mp hx with h | h
    · exact e3 x h
    · rw [List.mem_singleton.mp h]; exact f2
  · subst e4; exact q out pos (e2.trans hl) e3
theorem ops_of {keys : List Int} : ∀ {zs : List AVal}, (∀ z ∈ zs, ∃ o, z = opT o ∧ OpG keys o) → ∃ os : List OpR, zs = os.map opT ∧ ∀ o ∈ os, OpG keys o
  | [], _ => ⟨[], rfl, fun _ h => (nomatch h)⟩
  | z :: zs, h => by
    obtain ⟨o, e, g⟩ := h z (.head _)
    obtain ⟨os, e2, g2⟩ := ops_of fun z' hz => h z' (.tail _ hz)
    refine ⟨o :: os, by rw [e, e2]; rfl, fun o' ho => ?_⟩
    rcases List.mem_cons.mp ho with q | q
    · rw [q]; exact g
    · exact g2 o' q

theorem W1_comp1c {elt iter : Expr} {pos spos : Pos} {x y : Str} {px py : Pos} {scope : Scope} {Q : Fl → Loc → AHeap → Prop} (ρ' ρ₂ : AVal → Loc) (e2 : ∀ v, lset ρ y v = ρ₂ v) (hsw : swapB sc scope y py.line pos.line = false) (hv : isVar sc y = true) (hl : pos.line = spos.line) (hc : compOK scope sc = true) (hx : scope.names.lookup x = some .local) (hse : ∀ env y, foldedSetIterable iter env y = pure y)
    (h : W B d sc ρ iter (Comp1 B d sc ρ scope elt x ρ' fun out H₂ => Q .next (ρ₂ (.lst out)) H₂) H) : W1 B d sc ρ (.Assign [.Name y py] (.ListComp elt [⟨.Name x px, iter, [], 0⟩] scope pos) spos) Q H :=
  W1_assign (W_comp1 ρ' hc hx hse (W_mono h fun a H₁ q => by
    have := q
    obtain ⟨xs, ρc, J, a1, a2, a3, a4, a5, a6, a7, a8⟩ := this
    exact ⟨xs, ρc, J, a1, a2, a3, a4, a5, a6, a7, fun out H₂ j => WA_name' hv (e2 _) (a8 out H₂ j)⟩)) (fun env E => by
      have := swaps_eq (elt := elt) (gens := [⟨.Name x px, iter, [], 0⟩]) (pos := pos) (scope := scope) (y := y) (py := py) (l := spos.line) E
      rw [hsw] at this; exact this) (by intro _ _; rfl) (by intro _; rfl)

theorem rows_spec (T : Facts B) {dk : Addr} {cells : List Int} {pos : Nat} {Q : AVal → AHeap → Prop} (ok : CellsOK cells) (q : ∀ n rs pos', Good n rs → Q (rowsT rs) (DK H dk cells pos')) : CallG B (d + 3) "_law_rows" [.ref dk] Q (DK H dk cells pos) := by
  refine CallG.freeze (fn_start T 34 ["deck"] (by decide) (by decide +kernel) (by ktf_call q_bind) (by decide +kernel) rfl ?_)
  ktf_call q_z
  refine W1_comp1c (fun y => [("place", y)]) (fun w => [("deck", .ref dk), ("labels", w)]) (by intro w; ktf_call q_lsetk) (by decide +kernel) (by decide +kernel) rfl (by decide +kernel) (by decide +kernel) (by intro _ _; rfl) ?_
  ktf_call q_mm
  refine draw_at (many := 6) T ok (by decide) fun n0 hn0 => ?_
  refine V2_add ⟨1 + n0, by simp, ?_⟩
  obtain ⟨n, hn⟩ : ∃ n, n = 1 + n0 := ⟨_, rfl⟩
  rw [← hn]
  refine Comp1.same _ (intsL (keysN n)) [] (iter_rng (by lia)) (by rw [intsL_len, keysN_len, rangeL_len]) (by rw [intsL_len, keysN_len]; lia) (Sub.nil _) (by ktf_call q_free) (fun y => rfl) (fun y => Sub.nil _) (fun j y z hy hz => ?_) ?_
  · obtain ⟨rfl, hj⟩ := rangeL_at hy
    have : z = .int (10 + 3 * (j : Int)) := by
      unfold intsL at hz
      rw [List.getElem?_map, keysN_at hj] at hz
      simpa using hz.symm
    subst this
    ktf_call q_mm
    refine V2_mul ?_ (.of_left (by decide))
    ktf_call q_mm
    exact ⟨rfl, rfl⟩
  ktf_call q_s
  ktf_call q_s
  refine W_dict0 fun ar h1 => ?_
  ktf_call q_mm
  have had : ar ≠ dk := fun z => by rw [z] at h1; exact absurd ((upd_self ..).symm.trans h1) (by simp)
  have h1' : H ar = none := (upd_ne _ _ had).symm.trans h1
  let E : List (Int × RowR) → AHeap := fun rs => upd H ar (some (.dict (rs.map fun p => (p.1, rowT p.2))))
  have ec : upd (DK H dk cells (pos + 1)) ar (some (.dict [])) = DK (E []) dk cells (pos + 1) := upd2_comm (Ne.symm had)
  rw [ec]
  refine W1_forF (fun i H' => ∃ rs pos, H' = DK (E rs) dk cells pos ∧ rs.length = i ∧ ∀ (j : Nat) k r, rs[j]? = some (k, r) → k = 10 + 3 * (j : Int) ∧ RowG n j r) (fun y => [("deck", .ref dk), ("labels", .lst (intsL (keysN n))), ("rows", .ref ar), ("place", y)]) (by decide +kernel) (by intro y; ktf_call q_lsetk) (by intro _ _; rfl) ?_
  ktf_call q_mm
  refine ⟨n, by lia, .inl ⟨_, .inl rfl, by rw [intsL_len, keysN_len]⟩, n, rfl, ?_⟩
  refine ⟨_, iter_rng (by lia), ⟨[], _, rfl, rfl, fun j k r e => by simp at e⟩, fun i y H₂ hy ⟨rs, pos1, e, hlen, hrs⟩ => ?_, fun H₂ ⟨rs, pos1, e, hlen, hrs⟩ => ?_⟩
  · subst e
    obtain ⟨rfl, hi⟩ := rangeL_at hy
    have hmul : ∀ z : Int, IntMulOk 100 z := fun z => .of_left (by decide)
    refine WS_cons ?_
    refine W1_comp1 (fun y => [("place", .int i), ("turn", y)]) (fun w => [("deck", .ref dk), ("labels", .lst (intsL (keysN n))), ("rows", .ref ar), ("place", .int i), ("params", w)]) (by intro w; ktf_call q_lsetk) (by decide +kernel) (by decide +kernel) (by decide +kernel) (by intro _ _; rfl) ?_
    ktf_call q_mm
    refine draw_at (many := 3) T ok (by decide) fun np hnp => ?_
    refine ⟨np, rfl, ?_⟩
    refine Comp1.same _ (intsL ((List.range np).map fun (t : Nat) => 100 * ((i : Int) + 1) + t)) [("place", .int i)] (iter_rng (by lia)) (by simp [intsL, rangeL]) (by simp [intsL]; lia) (by ktf_call q_sub) (by ktf_call q_free) (fun y => by ktf_call q_lsetk) (fun y => by ktf_call q_sub) (fun j y z hy hz => ?_) ?_
    · obtain ⟨rfl, hj⟩ := rangeL_at hy
      have : z = .int (100 * ((i : Int) + 1) + (j : Nat)) := by
        simp only [intsL, List.getElem?_map, List.getElem?_range hj] at hz
        simpa using hz.symm
      subst this
      ktf_call q_mm
      refine V2_mul ?_ (hmul _)
      ktf_call q_mm
      exact ⟨rfl, rfl⟩
    ktf_call q_mm
    refine W_mono (Q := fun x H₁ => ∃ (rest : Int) (pos' : Nat), x = .int rest ∧ H₁ = DK (E rs) dk cells pos') (W_if ?_) ?_
    · ktf_call q_mm
      refine draw_at (many := 3) T ok (by decide) fun r1 hr1 => ?_
      ktf_call q_mm
      refine ⟨fun _ => ?_, fun _ => ?_⟩
      · ktf_call q_mm
        refine V2_mul ?_ (hmul _)
        ktf_call q_mm
        exact ⟨_, _, rfl, rfl⟩
      · ktf_call q_mm
        exact ⟨_, _, rfl, rfl⟩
    rintro x H₁ ⟨rest, pos2, rfl, rfl⟩
    ktf_call q_mm
    refine W_mono (Q := fun x H₁ => ∃ (par : Int) (pos' : Nat), x = .int par ∧ (par = -1 ∨ ∃ m : Nat, m < i ∧ par = 10 + 3 * (m : Int)) ∧ H₁ = DK (E rs) dk cells pos') (W_if ?_) ?_
    · ktf_call q_mm
      have last : ∀ pos', W B (d + 2) (scp (stAt 34)) [("deck", .ref dk), ("labels", .lst (intsL (keysN n))), ("rows", .ref ar), ("place", .int i), ("params", .lst (intsL (List.map (fun (t : Nat) => 100 * ((i : Int) + 1) + (t : Int)) (List.range np)))), ("rest", .int rest)] (.UnaryOp .USub (.Constant (.int 1) 0 ⟨296, 94, 296, 95⟩) ⟨296, 93, 296, 95⟩) (fun x H₁ => ∃ (par : Int) (pos' : Nat), x = .int par ∧ (par = -1 ∨ ∃ m : Nat, m < i ∧ par = 10 + 3 * (m : Int)) ∧ H₁ = DK (E rs) dk cells pos') (DK (E rs) dk cells pos') := fun pos' => by
        ktf_call q_mm
        exact ⟨_, _, rfl, .inl rfl, rfl⟩
      refine ⟨fun _ => ⟨fun z => (nomatch z), fun _ => last _⟩, fun hc => ?_⟩
      have hi0 : 0 < i := by have := of_decide_eq_true hc; lia
      ktf_call q_mm
      refine draw_at (many := 3) T ok (by decide) fun r1 hr1 => ?_
      ktf_call q_mm
      refine ⟨fun _ => ⟨fun z => (nomatch z), fun _ => last _⟩, fun hc2 => ?_⟩
      ktf_call q_mm
      refine ⟨fun _ => ?_, fun z => (nomatch z)⟩
      ktf_call q_mm
      refine draw_at T ok hi0 fun r2 hr2 => ?_
      have hk2 : (intsL (keysN n))[r2]? = some (.int (10 + 3 * (r2 : Int))) := by unfold intsL; rw [List.getElem?_map, keysN_at (by lia)]; rfl
      refine ⟨_, .inr ⟨_, r2, .inl (.inl rfl), rfl, by lia, hk2⟩, ?_⟩
      exact ⟨_, _, rfl, .inr ⟨r2, hr2, rfl⟩, rfl⟩
    rintro x H₁ ⟨par, pos3, rfl, hpar, rfl⟩
    ktf_call q_mm
    refine W1_comp1 (fun y => [("deck", .ref dk), ("labels", .lst (intsL (keysN n))), ("place", .int i), ("turn", y)]) (fun w => [("deck", .ref dk), ("labels", .lst (intsL (keysN n))), ("rows", .ref ar), ("place", .int i), ("params", .lst (intsL (List.map (fun (t : Nat) => 100 * ((i : Int) + 1) + (t : Int)) (List.range np)))), ("rest", .int rest), ("parent", .int par), ("ops", w)]) (by intro w; ktf_call q_lsetk) (by decide +kernel) (by decide +kernel) (by decide +kernel) (by intro _ _; rfl) ?_
    ktf_call q_mm
    refine draw_at (many := 3) T ok (by decide) fun no hno => ?_
    refine ⟨no, rfl, ?_⟩
    refine Comp1.gens (D := DK (E rs) dk cells) (P := fun z => ∃ o, z = opT o ∧ OpG (keysN n) o) no _ [("deck", .ref dk), ("labels", .lst (intsL (keysN n))), ("place", .int i)] (iter_rng (by lia)) (rangeL_len _) (by lia) (by ktf_call q_sub) (by ktf_call q_free) (fun y => by ktf_call q_lsetk) (fun y => by ktf_call q_sub) (fun j y pos hy => ?_) fun zs pos4 hz1 hz2 => ?_
    · obtain ⟨rfl, hj⟩ := rangeL_at hy
      ktf_call q_mm
      refine V2_mul ?_ (hmul _)
      ktf_call q_mm
      refine V2_mul ?_ (.of_left (by decide))
      ktf_call q_mm
      refine genOp_spec (d := d) T ok (by lia) (by rw [keysN_len]; lia) (by rw [keysN_len]; lia) fun o pos' ho => ?_
      exact ⟨_, ⟨o, rfl, ho⟩, rfl⟩
    obtain ⟨os, rfl, hos⟩ := ops_of hz2
    rw [List.length_map] at hz1
    ktf_call q_mm
    refine W_mono (Q := fun x H₁ => ∃ (var : Int), x = .int var ∧ H₁ = DK (E rs) dk cells pos4) (W_if ?_) ?_
    · ktf_call q_mm
      refine ⟨fun _ => ?_, fun _ => ?_⟩
      · ktf_call q_mm
        refine V2_mul ?_ (hmul _)
        ktf_call q_mm
        exact rfl
      · ktf_call q_mm
        exact rfl
    rintro x H₁ ⟨var, rfl, rfl⟩
    ktf_call q_mm
    refine W_mono (Q := fun x H₁ => ∃ sort : Str, x = .str sort ∧ (sort = "fun" ∨ sort = "cont") ∧ H₁ = DK (E rs) dk cells pos4) (W_if ?_) ?_
    · ktf_call q_mm
      refine ⟨fun _ => ?_, fun _ => ?_⟩
      · ktf_call q_mm
        exact ⟨.inl rfl, rfl⟩
      · ktf_call q_mm
        exact ⟨.inr rfl, rfl⟩
    rintro x H₁ ⟨sort, rfl, hsort, rfl⟩
    ktf_call q_mm
    refine genLast_spec (d := d) T ok (by rw [keysN_len]; lia) (by rw [keysN_len]; lia) fun l pos5 hl => ?_
    ktf_call q_mm
    refine ⟨by simp, ?_⟩
    ktf_call q_mm
    refine ⟨_, .inr ⟨_, i, .inl (.inl rfl), rfl, by lia, by unfold intsL; rw [List.getElem?_map, keysN_at hi]; rfl⟩, ?_⟩
    have hat : DK (E rs) dk cells pos5 ar = some (.dict (rs.map fun p => (p.1, rowT p.2))) := (upd_ne _ _ had).trans (upd_self ..)
    refine U3_setD hat (by simp; lia) ?_
    ktf_call q_mm
    have hk : (10 + 3 * (i : Int)) ∉ (rs.map fun p => (p.1, rowT p.2)).map (·.1) := fun z => by
      rw [rows_keys] at z
      obtain ⟨p, hp, e⟩ := List.mem_map.mp z
      obtain ⟨j, hj⟩ := List.getElem?_of_mem hp
      have := (hrs j p.1 p.2 hj).1
      have hlt := (List.getElem?_eq_some_iff.mp hj).1
      rw [e] at this; lia
    refine ⟨rs ++ [(10 + 3 * (i : Int), ⟨sort, List.map (fun (t : Nat) => 100 * ((i : Int) + 1) + (t : Int)) (List.range np), rest, var, par, os, l⟩)], pos5, ?_, by simp [hlen], fun j k r e => ?_⟩
    · rw [dset_new hk]
      show upd (upd (upd H ar _) dk _) ar _ = upd (upd H ar _) dk _
      rw [upd2_comm (Ne.symm had), upd_upd, List.map_append]; rfl
    · by_cases hj : j < rs.length
      · rw [List.getElem?_append_left hj] at e; exact hrs j k r e
      · have hj2 : j = rs.length := by
          have := (List.getElem?_eq_some_iff.mp e).1
          simp at this; lia
        subst hj2
        rw [List.getElem?_append_right (Nat.le_refl _)] at e
        simp at e
        obtain ⟨rfl, rfl⟩ := e
        rw [hlen]
        exact ⟨rfl, hsort, by simp; lia, by dsimp only; lia, hos, hl, hpar⟩
  · subst e
    ktf_call q_mm
    rw [rangeL_len] at hlen
    have e1 : DK (E rs) dk cells pos1 = upd (DK H dk cells pos1) ar (some (.dict (rs.map fun p => (p.1, rowT p.2)))) := upd2_comm had
    rw [e1]
    exact froze_dict ((upd_ne _ _ had).trans h1') (q n rs pos1 ⟨hlen, by lia, by lia, hrs⟩)
end


/-! ## comprehensions of several clauses that change nothing -/

section
variable {B : Base} {H H' : AHeap} {d : Nat} {sc : Scope} {ρ : Loc}

noncomputable def PureE (B : Base) (d : Nat) (sc : Scope) (elt : Expr) (gens : List Comprehension) (k : Nat) (ρ : Loc) (zs : List AVal) (H : AHeap) : Prop :=
  ∀ (out : List AVal) (P : Loc → List AVal → AHeap → Prop), out.length + zs.length ≤ 100000 → (∀ ρ₂, Sub ρ ρ₂ → P ρ₂ (out ++ zs) H) → WE B d sc elt gens k ρ out P H

theorem PureE_last {elt : Expr} {gens : List Comprehension} {k : Nat} {z : AVal} (hg : gens[k + 1]? = none) (h : W B d sc ρ elt (fun y H₁ => y = z ∧ H₁ = H) H) : PureE B d sc elt gens k ρ [z] H := fun out P hz q =>
  WE_last hg (W_mono h fun y H₁ ⟨e1, e2⟩ => ⟨by simp at hz; lia, by rw [e1, e2]; exact q ρ (.refl _)⟩)
theorem PureE_next {elt iter : Expr} {gens : List Comprehension} {k : Nat} {x : Str} {px : Pos} {fs : List (List AVal)} (ρ' : AVal → Loc) (hg : gens[k + 1]? = some ⟨.Name x px, iter, [], 0⟩) (hx : sc.names.lookup x = some .local) (hse : ∀ env y, foldedSetIterable iter env y = pure y) (hx0 : lget ρ x = none) (e : ∀ y, lset ρ x y = ρ' y)
    (h : W B d sc ρ iter (fun a H₁ => ∃ xs, Iter a xs ∧ H₁ = H ∧ fs.length = xs.length ∧ ∀ (i : Nat) y z, xs[i]? = some y → fs[i]? = some z → PureE B d sc elt gens (k + 1) (ρ' y) z H) H) : PureE B d sc elt gens k ρ fs.flatten H := fun out P hz q => by
  refine WE_next (fun i ρ₁ out₁ H₂ => ρ₁ = ρ ∧ out₁ = out ++ (fs.take i).flatten ∧ H₂ = H) hg hx hse (W_mono h fun a H₁ ⟨xs, it, e1, hl, step⟩ => ⟨xs, ρ, it, .refl _, ⟨rfl, by simp, e1⟩, fun i y ρ₁ out₁ H₂ hy ⟨e2, e3, e4⟩ => ?_, fun ρ₁ out₁ H₂ ⟨e2, e3, e4⟩ => ?_⟩)
  · subst e2 e3 e4
    have hi : i < fs.length := by rw [hl]; exact (List.getElem?_eq_some_iff.mp hy).1
    have hf : fs[i]? = some fs[i] := by simp [hi]
    refine WT_nil ⟨fun _ => ?_, fun z => (nomatch z)⟩
    have ht : (fs.take (i + 1)).flatten = (fs.take i).flatten ++ fs[i] := by rw [take_snoc hf, List.flatten_append]; simp only [List.flatten_cons, List.flatten_nil, List.append_nil]
    have hle : ((fs.take (i + 1)).flatten).length ≤ fs.flatten.length := by
      have : fs.flatten = (fs.take (i + 1)).flatten ++ (fs.drop (i + 1)).flatten := by rw [← List.flatten_append, List.take_append_drop]
      rw [this, List.length_append]; lia
    rw [ht, List.length_append] at hle
    rw [e]
    refine step i y fs[i] hy hf _ _ (by simp only [List.length_append]; lia) fun ρ₂ hs => ⟨ρ₁, fun z u ez => hs z u (by rw [← e]; exact Sub.lset hx0 z u ez), rfl, ?_, rfl⟩
    rw [ht, List.append_assoc]
  · subst e2 e3 e4
    rw [← hl, List.take_length]; exact q _ (.refl _)

/-- a comprehension of several clauses that changes nothing -/
theorem CompP.src {elt iter : Expr} {gens : List Comprehension} {x : Str} {px : Pos} {QQ : List AVal → AHeap → Prop} {a : AVal} {H₁ : AHeap} {scope : Scope} (ρ' : AVal → Loc) (xs : List AVal) (fs : List (List AVal)) (ρc : Loc) (it : Iter a xs) (hs : Sub ρc ρ) (hf : ∀ p ∈ ρc, scope.names.lookup p.1 = some .free) (hx0 : lget ρc x = none) (e : ∀ y, lset ρc x y = ρ' y)
    (hl : fs.length = xs.length) (hz : fs.flatten.length ≤ 100000) (step : ∀ (i : Nat) y z, xs[i]? = some y → fs[i]? = some z → PureE B d (relabelS scope sc) elt (⟨.Name x px, iter, [], 0⟩ :: gens) 0 (ρ' y) z H₁) (q : QQ fs.flatten H₁) :
    CompSrcOK B d sc ρ scope elt x px iter [] gens QQ a H₁ := by
  refine ⟨xs, ρc, fun i ρ₁ out₁ H₂ => ρ₁ = ρc ∧ out₁ = (fs.take i).flatten ∧ H₂ = H₁, it, hs, fun y a e => hf _ (mem_of_lget e), ⟨rfl, by simp, rfl⟩, fun i y ρ₁ out₁ H₂ hy ⟨e2, e3, e4⟩ => ?_, fun ρ₁ out₁ H₂ ⟨e2, e3, e4⟩ => ?_⟩
  · subst e2 e3 e4
    have hi : i < fs.length := by rw [hl]; exact (List.getElem?_eq_some_iff.mp hy).1
    have hf : fs[i]? = some fs[i] := by simp [hi]
    refine WT_nil ⟨fun _ => ?_, fun z => (nomatch z)⟩
    have ht : (fs.take (i + 1)).flatten = (fs.take i).flatten ++ fs[i] := by rw [take_snoc hf, List.flatten_append]; simp only [List.flatten_cons, List.flatten_nil, List.append_nil]
    have hle : ((fs.take (i + 1)).flatten).length ≤ fs.flatten.length := by
      have : fs.flatten = (fs.take (i + 1)).flatten ++ (fs.drop (i + 1)).flatten := by rw [← List.flatten_append, List.take_append_drop]
      rw [this, List.length_append]; lia
    rw [ht, List.length_append] at hle
    rw [e]
    refine step i y fs[i] hy hf _ _ (by lia) fun ρ₂ hs => ⟨ρ₁, fun z u ez => hs z u (by rw [← e]; exact Sub.lset hx0 z u ez), rfl, ?_, rfl⟩
    rw [ht]
  · subst e2 e3 e4
    rw [← hl, List.take_length]; exact q
end

/-! ## what the drawn rows are good for -/

theorem Good.keys {n : Nat} {rs : List (Int × RowR)} (g : Good n rs) : rs.map (·.1) = keysN n := by
  refine List.ext_getElem? fun j => ?_
  rw [List.getElem?_map]
  by_cases hj : j < n
  · have hj' : j < rs.length := by rw [g.len]; exact hj
    have e : rs[j]? = some rs[j] := by simp [hj']
    have := (g.row j rs[j].1 rs[j].2 e).1
    rw [e, keysN_at hj]
    exact congrArg some this
  · have h1 : rs[j]? = none := by rw [List.getElem?_eq_none_iff, g.len]; lia
    have h2 : (keysN n)[j]? = none := by rw [List.getElem?_eq_none_iff, keysN_len]; lia
    rw [h1, h2]; rfl
theorem Good.mem {n : Nat} {rs : List (Int × RowR)} (g : Good n rs) {p : Int × RowR} (h : p ∈ rs) : ∃ j : Nat, j < n ∧ p.1 = 10 + 3 * (j : Int) ∧ RowG n j p.2 := by
  obtain ⟨j, hj⟩ := List.getElem?_of_mem h
  have := (List.getElem?_eq_some_iff.mp hj).1
  exact ⟨j, by rw [← g.len]; exact this, g.row j p.1 p.2 hj⟩
theorem Good.key {n : Nat} {rs : List (Int × RowR)} (g : Good n rs) {k : Int} (h : k ∈ keysN n) : ∃ r, (k, r) ∈ rs := by
  rw [← g.keys] at h
  obtain ⟨p, hp, e⟩ := List.mem_map.mp h
  exact ⟨p.2, by rw [← e]; exact hp⟩
theorem keysN_asc (n : Nat) : (keysN n).Pairwise (· < ·) := by
  unfold keysN
  rw [List.pairwise_map]
  exact List.pairwise_lt_range.imp fun h => by lia
theorem OpG.ok {ks : List Int} {o : OpR} (h : OpG ks o) : OpOK o := ⟨by have := h.args; lia, by have := h.results; lia, by have := h.labels; lia⟩
theorem Good.ok {n : Nat} {rs : List (Int × RowR)} (g : Good n rs) : RowsOK rs where
  len := by have := g.len; have := g.le; lia
  asc := by rw [g.keys]; exact keysN_asc n
  row p hp := by
    obtain ⟨j, _, _, G⟩ := g.mem hp
    exact ⟨by have := G.params; lia, by have := G.opl; lia, fun o ho => (G.op o ho).ok, ⟨by have := G.last.args; lia⟩⟩
theorem Good.sm {n : Nat} {rs : List (Int × RowR)} (g : Good n rs) : RowsSm rs where
  len := by have := g.len; have := g.le; lia
  ops p hp := let ⟨j, _, _, G⟩ := g.mem hp; G.opl
  params p hp := let ⟨j, _, _, G⟩ := g.mem hp; G.params
  args p hp o ho := let ⟨j, _, _, G⟩ := g.mem hp; (G.op o ho).args
  results p hp o ho := let ⟨j, _, _, G⟩ := g.mem hp; (G.op o ho).results
  labels p hp o ho := let ⟨j, _, _, G⟩ := g.mem hp; (G.op o ho).labels
  last p hp := let ⟨j, _, _, G⟩ := g.mem hp; G.last.args
theorem Good.nn {n : Nat} {rs : List (Int × RowR)} (g : Good n rs) : RowsNN rs := ⟨fun p hp o ho => let ⟨j, _, _, G⟩ := g.mem hp; (G.op o ho).nn⟩
theorem Good.wf {n : Nat} {rs : List (Int × RowR)} (g : Good n rs) : ∀ p ∈ rs, RowWF p.2 := fun p hp => let ⟨j, _, _, G⟩ := g.mem hp; ⟨G.sort, fun o ho => (G.op o ho).wf, G.last.wf⟩
theorem Good.tree {n : Nat} {rs : List (Int × RowR)} (g : Good n rs) : RowsTree rs where
  nonneg p hp := by obtain ⟨j, _, e, _⟩ := g.mem hp; lia
  par p hp := by
    obtain ⟨j, hj, e, G⟩ := g.mem hp
    rcases G.par with h | ⟨m, hm, h⟩
    · exact .inl h
    · refine .inr ⟨by rw [h, e]; lia, g.key (keysN_mem.mpr ⟨m, by lia, h⟩)⟩
  leads p hp l hl := by
    obtain ⟨j, _, _, G⟩ := g.mem hp
    unfold rowLeads lastTargets at hl
    refine g.key ?_
    rcases List.mem_append.mp hl with h | h
    · rcases List.mem_append.mp h with h | h
      · split at h
        · rename_i hc; rw [List.mem_singleton.mp h]; exact G.last.to hc
        · cases h
      · split at h
        · rename_i hc; rw [List.mem_singleton.mp h]; exact G.last.other hc
        · cases h
    · obtain ⟨o, ho, h⟩ := List.mem_flatMap.mp h
      exact (G.op o ho).lab l h
  entry := g.key (keysN_mem.mpr ⟨0, g.pos, by simp⟩)

structure RowStr (r : RowR) : Prop where
  sort : PyData.strOk r.sort = true
  op : ∀ o ∈ r.ops, PyData.strOk o.word = true
  last : PyData.strOk r.last.word = true
theorem OpWF.str {o : OpR} (h : OpWF o) : PyData.strOk o.word = true := by
  rcases h with ⟨h, _⟩ | ⟨h, _⟩ | ⟨h, _⟩ | ⟨h | h, _⟩ <;> rw [h] <;> decide +kernel
theorem LastWF.str {o : LastR} (h : LastWF o) : PyData.strOk o.word = true := by
  rcases h with ⟨h, _⟩ | ⟨h, _⟩ | ⟨h, _⟩ | ⟨h, _⟩ <;> rw [h] <;> decide +kernel
theorem RowWF.str {r : RowR} (h : RowWF r) : RowStr r := ⟨by rcases h.sort with h | h <;> rw [h] <;> decide +kernel, fun o ho => (h.op o ho).str, h.last.str⟩
theorem Data.le {B : Base} {n m : Nat} {x : AVal} (h : n ≤ m) (dx : Data (B := B) n x) : Data (B := B) m x := let ⟨p, a, b, c⟩ := dx; ⟨p, a, Nat.le_trans b h, c⟩
theorem Data.row {B : Base} {r : RowR} (h : RowStr r) : Data (B := B) 4 (rowT r) := by
  have dints : ∀ {n : Nat} {ns : List Int}, Data (B := B) (n + 1) (.lst (intsL ns)) := Data.ints
  refine Data.tup fun x hx => ?_
  simp only [List.mem_cons, List.not_mem_nil, or_false] at hx
  rcases hx with rfl | rfl | rfl | rfl | rfl | rfl | rfl
  · exact Data.str h.sort
  · exact dints
  · exact Data.int
  · exact Data.int
  · exact Data.int
  · refine Data.lst fun y hy => ?_
    obtain ⟨o, ho, rfl⟩ := List.mem_map.mp hy
    refine Data.tup fun x hx => ?_
    simp only [List.mem_cons, List.not_mem_nil, or_false] at hx
    rcases hx with rfl | rfl | rfl | rfl | rfl | rfl
    · exact Data.str (h.op o ho)
    · exact Data.int
    · exact Data.int
    · exact dints
    · exact dints
    · exact dints
  · refine Data.tup fun x hx => ?_
    simp only [List.mem_cons, List.not_mem_nil, or_false] at hx
    rcases hx with rfl | rfl | rfl | rfl | rfl | rfl
    · exact Data.str h.last
    · exact Data.int
    · exact dints
    · exact Data.int
    · exact Data.int
    · exact Data.int
theorem dget_mem : ∀ {m : List (Int × AVal)} {k : Int} {x : AVal}, (m.map (·.1)).Nodup → (k, x) ∈ m → dget m k = some x := fun nd h => by
  obtain ⟨i, hi⟩ := List.getElem?_of_mem h
  exact dget_of nd hi
theorem rows_same {B : Base} {rs : List (Int × RowR)} (ok : RowsOK rs) (hs : ∀ p ∈ rs, RowStr p.2) : ∀ k x, (k, x) ∈ (rs.map fun p => (p.1, rowT p.2)) → dget (rs.map fun p => (p.1, rowT p.2)) k = some x ∧ Data (B := B) 4 x := fun k x h => by
  refine ⟨dget_mem (by rw [rows_keys]; exact asc_nodup ok.asc) h, ?_⟩
  obtain ⟨p, hp, e⟩ := List.mem_map.mp h
  cases e; exact Data.row (hs p hp)


/-! ## plain facts: tallies, sorted keys, what is given where -/

theorem zget_zset : ∀ (m : List (Int × Int)) (k n j : Int), zget (zset m k n) j = if j = k then some n else zget m j
  | [], k, n, j => by simp [zset, zget]
  | (i, v) :: r, k, n, j => by
    by_cases h : k = i
    · subst h
      simp only [zset, if_true, zget]
      split <;> rfl
    · simp only [zset, if_neg h, zget, zget_zset r k n j]
      by_cases hj : j = i
      · subst hj; simp [Ne.symm h]
      · simp [hj]
theorem bumps_get (k : Int) : ∀ (xs : List Int) (m : List (Int × Int)), zget (xs.foldl bump m) k = if k ∈ xs then some ((zget m k).getD 0 + xs.count k) else zget m k
  | [], m => by simp
  | x :: xs, m => by
    rw [List.foldl_cons, bumps_get k xs (bump m x)]
    unfold bump
    rw [zget_zset]
    by_cases h : k = x
    · subst h
      simp only [if_true, List.mem_cons, true_or, Option.getD_some, List.count_cons_self]
      by_cases hx : k ∈ xs
      · rw [if_pos hx]; congr 1; lia
      · rw [if_neg hx, List.count_eq_zero.mpr hx]; congr 1
    · have h' : ¬ x = k := fun z => h z.symm
      simp only [List.mem_cons, h, false_or, if_false]
      rw [List.count_cons_of_ne h']
theorem tally_get (xs : List Int) (k : Int) : zget (tally xs) k = if k ∈ xs then some (xs.count k : Int) else none := by
  unfold tally
  rw [bumps_get]
  simp [zget]
theorem tally_perm {xs ys : List Int} (p : xs.Perm ys) (k : Int) : zget (tally xs) k = zget (tally ys) k := by
  rw [tally_get, tally_get, p.count_eq]
  by_cases h : k ∈ xs
  · rw [if_pos h, if_pos (p.mem_iff.mp h)]
  · rw [if_neg h, if_neg fun z => h (p.mem_iff.mpr z)]
theorem nodup_perm {a b : List Int} (ha : a.Nodup) (hb : b.Nodup) (h : ∀ k, k ∈ a ↔ k ∈ b) : a.Perm b := (List.perm_ext_iff_of_nodup ha hb).mpr h
theorem tally_size {xs ys : List Int} (p : xs.Perm ys) : (tally xs).length = (tally ys).length := by
  have := (nodup_perm (kuniq_nodup xs) (kuniq_nodup ys) fun k => by rw [kuniq_mem, kuniq_mem]; exact p.mem_iff).length_eq
  rw [← tally_keys, ← tally_keys, List.length_map, List.length_map] at this
  exact this
theorem zv_same {B : Base} {m1 m2 : List (Int × Int)} (nd : (m1.map (·.1)).Nodup) (h : ∀ k, zget m1 k = zget m2 k) : ∀ k x, (k, x) ∈ zv m1 → dget (zv m2) k = some x ∧ Data (B := B) 4 x := fun k x hx => by
  have h1 := dget_mem (m := zv m1) (by rw [zv_keys]; exact nd) hx
  refine ⟨?_, ?_⟩
  · rw [dget_zv, ← h, ← dget_zv]; exact h1
  · obtain ⟨p, _, e⟩ := List.mem_map.mp hx
    cases e; exact Data.int
theorem tally_nodup (xs : List Int) : ((tally xs).map (·.1)).Nodup := by rw [tally_keys]; exact kuniq_nodup xs
theorem sortZ_same {a b : List Int} (ha : a.Nodup) (hb : b.Nodup) (h : ∀ k, k ∈ a ↔ k ∈ b) : sortZ a = sortZ b := sortZ_congr (nodup_perm ha hb h)

theorem flatMap_perm {α : Type} {f g : α → List Int} : ∀ {l : List α}, (∀ x ∈ l, (f x).Perm (g x)) → (l.flatMap f).Perm (l.flatMap g)
  | [], _ => .nil
  | x :: l, h => by
    rw [List.flatMap_cons, List.flatMap_cons]
    exact (h x (.head _)).append (flatMap_perm fun y hy => h y (.tail _ hy))
theorem labels_perm (rs : List (Int × RowR)) : (rs.flatMap fun p => rowLabels p.2).Perm (rs.flatMap fun p => rowLeads p.2) :=
  flatMap_perm fun p _ => by unfold rowLabels rowLeads; exact List.perm_append_comm

theorem pput_append (m a b : List (Int × AVal)) : pput m (a ++ b) = pput (pput m a) b := by unfold pput; rw [List.foldl_append]
theorem pput_puts (ns : List Int) (v : AVal) : ∀ m : List (Int × AVal), pput m (ns.map fun n => (n, v)) = puts m ns v := by
  induction ns with
  | nil => intro m; rfl
  | cons n ns ih => intro m; show pput (dset m n v) (ns.map fun n => (n, v)) = puts (dset m n v) ns v; exact ih _
noncomputable def givenPairs (rs : List (Int × RowR)) : List (Int × AVal) := rs.flatMap fun p => (blkGiven p.2).map fun n => (n, .int p.1)
theorem givenPairs_put (rs : List (Int × RowR)) : pput [] (givenPairs rs) = zv (givenAt rs) := by
  have : ∀ (rs : List (Int × RowR)) (m : List (Int × Int)), pput (zv m) (givenPairs rs) = zv (rs.foldl (fun m p => zputs m (blkGiven p.2) p.1) m) := by
    intro rs
    induction rs with
    | nil => intro m; rfl
    | cons p rs ih =>
      intro m
      unfold givenPairs
      rw [List.flatMap_cons, pput_append, pput_puts, puts_zv]
      exact ih _
  exact this rs []
theorem zputs_keys (ns : List Int) (k : Int) : ∀ m : List (Int × Int), (zputs m ns k).map (·.1) = ns.foldl kadd (m.map (·.1)) := by
  induction ns with
  | nil => intro m; rfl
  | cons n ns ih => intro m; show (zputs (zset m n k) ns k).map (·.1) = _; rw [ih, zset_keys]; rfl
theorem givenAt_nodup (rs : List (Int × RowR)) : ((givenAt rs).map (·.1)).Nodup := by
  have : ∀ (rs : List (Int × RowR)) (m : List (Int × Int)), (m.map (·.1)).Nodup → ((rs.foldl (fun m p => zputs m (blkGiven p.2) p.1) m).map (·.1)).Nodup := by
    intro rs
    induction rs with
    | nil => intro m h; exact h
    | cons p rs ih => intro m h; exact ih _ (by rw [zputs_keys]; exact (kadds _ _).2 h)
  exact this rs [] (by simp)

theorem kv_keys (m : List (Int × List Int)) : (kv m).map (·.1) = m.map (·.1) := by simp [kv]
theorem cadd_keys : ∀ (m : List (Int × List Int)) (k x : Int), (cadd m k x).map (·.1) = kadd (m.map (·.1)) k
  | [], k, x => by simp [cadd, kadd]
  | (j, u) :: r, k, x => by
    have ih := cadd_keys r k x
    by_cases q : k = j
    · subst q; simp [cadd, kadd]
    · simp only [cadd, if_neg q, List.map_cons, ih]
      unfold kadd
      by_cases hm : k ∈ r.map (·.1)
      · rw [if_pos hm, if_pos (.tail _ hm)]
      · rw [if_neg hm, if_neg fun z => by
          rcases List.mem_cons.mp z with z | z
          · exact q z
          · exact hm z]; rfl
theorem kidsOf_nodup (rs : List (Int × RowR)) : ((kidsOf rs).map (·.1)).Nodup := by
  have : ∀ (rs : List (Int × RowR)) (m : List (Int × List Int)), (m.map (·.1)).Nodup → ((rs.foldl (fun m p => if p.2.parent ≥ 0 then cadd m p.2.parent p.1 else m) m).map (·.1)).Nodup := by
    intro rs
    induction rs with
    | nil => intro m h; exact h
    | cons p rs ih =>
      intro m h
      refine ih _ ?_
      dsimp only
      split
      · rw [cadd_keys]; exact kadd_nodup h
      · exact h
  exact this rs [] (by simp)
theorem kv_same {B : Base} {m : List (Int × List Int)} (nd : (m.map (·.1)).Nodup) : ∀ k x, (k, x) ∈ kv m → dget (kv m) k = some x ∧ Data (B := B) 4 x := fun k x hx => by
  refine ⟨dget_mem (by rw [kv_keys]; exact nd) hx, ?_⟩
  obtain ⟨p, _, e⟩ := List.mem_map.mp hx
  cases e; exact Data.ints

/-! ### the law's own search -/

structure LInv (rs : List (Int × RowR)) (ks ws : List Int) : Prop where
  nd : ks.Nodup
  sub : ∀ k ∈ ks, Reach rs k
  wk : ∀ k ∈ ws, Reach rs k
  ent : (10 : Int) ∈ ks ∨ (10 : Int) ∈ ws
  clo : ∀ k ∈ ks, ∀ r, (k, r) ∈ rs → ∀ l ∈ rowLeads r, l ∈ ks ∨ l ∈ ws
  wl : ws.length ≤ 1 + 6 * ks.length
theorem LInv.len {rs : List (Int × RowR)} (tr : RowsTree rs) {ks ws : List Int} (I : LInv rs ks ws) : ks.length ≤ rs.length := by
  have := nodup_len (m := rs.map (·.1)) I.nd fun k hk => by
    obtain ⟨r, hr⟩ := (I.sub k hk).key tr
    exact List.mem_map.mpr ⟨(k, r), hr, rfl⟩
  simpa using this
theorem LInv.done {rs : List (Int × RowR)} {ks : List Int} (I : LInv rs ks []) (k : Int) : k ∈ ks ↔ Reach rs k := by
  refine ⟨I.sub k, fun h => ?_⟩
  induction h with
  | entry => exact I.ent.resolve_right fun z => nomatch z
  | step hk hm hl ih => exact (I.clo _ ih _ hm _ hl).resolve_right fun z => nomatch z
theorem LInv.start (rs : List (Int × RowR)) : LInv rs [] [10] :=
  ⟨by simp, fun _ h => (nomatch h), fun k h => by rw [List.mem_singleton.mp h]; exact .entry, .inr (by simp), fun _ h => (nomatch h), by simp⟩
theorem LInv.old {rs : List (Int × RowR)} {ks ws : List Int} {k : Int} (I : LInv rs ks (ws ++ [k])) (h : k ∈ ks) : LInv rs ks ws := by
  have s : ∀ {x : Int}, x ∈ ks ∨ x ∈ ws ++ [k] → x ∈ ks ∨ x ∈ ws := fun q => q.elim .inl fun z => (List.mem_append.mp z).elim .inr fun z => .inl (by rw [List.mem_singleton.mp z]; exact h)
  exact ⟨I.nd, I.sub, fun x hx => I.wk x (List.mem_append_left _ hx), s I.ent, fun x hx r hr l hl => s (I.clo x hx r hr l hl), by have := I.wl; simp at this; lia⟩
theorem LInv.new {rs : List (Int × RowR)} (ok : RowsOK rs) {ks ws : List Int} {k : Int} {r : RowR} (I : LInv rs ks (ws ++ [k])) (h : k ∉ ks) (hm : (k, r) ∈ rs) (hl6 : (rowLeads r).length ≤ 6) : LInv rs (ks ++ [k]) (ws ++ rowLeads r) := by
  have hk := I.wk k (by simp)
  have s : ∀ {x : Int}, x ∈ ks ∨ x ∈ ws ++ [k] → x ∈ ks ++ [k] ∨ x ∈ ws ++ rowLeads r := fun q => q.elim (fun z => .inl (List.mem_append_left _ z)) fun z => (List.mem_append.mp z).elim (fun z => .inr (List.mem_append_left _ z)) fun z => .inl (List.mem_append_right _ z)
  refine ⟨?_, fun x hx => ?_, fun x hx => ?_, s I.ent, fun x hx r' hr' l hl => ?_, ?_⟩
  · rw [List.nodup_append]
    exact ⟨I.nd, by simp, fun a ha b hb => by rw [List.mem_singleton] at hb; subst hb; exact fun z => h (z ▸ ha)⟩
  · rcases List.mem_append.mp hx with z | z
    · exact I.sub x z
    · rw [List.mem_singleton.mp z]; exact hk
  · rcases List.mem_append.mp hx with z | z
    · exact I.wk x (List.mem_append_left _ z)
    · exact .step hk hm z
  · rcases List.mem_append.mp hx with z | z
    · exact s (I.clo x z r' hr' l hl)
    · rw [List.mem_singleton.mp z] at hr'
      rw [key_unique ok hr' hm] at hl
      exact .inr (List.mem_append_right _ hl)
  · have := I.wl
    simp only [List.length_append, List.length_singleton] at this ⊢; lia
theorem rowLeads_len {rs : List (Int × RowR)} (sm : RowsSm rs) {p : Int × RowR} (hp : p ∈ rs) : (rowLeads p.2).length ≤ 6 := by
  have := rowLabels_len sm hp
  unfold rowLabels at this
  unfold rowLeads
  simp only [List.length_append] at this ⊢; lia


section
variable {B : Base} {H H' : AHeap} {d : Nat} {sc : Scope} {ρ : Loc}

theorem flat_ints {α : Type} (f : α → List Int) : ∀ l : List α, (l.map fun p => intsL (f p)).flatten = intsL (l.flatMap f)
  | [] => rfl
  | x :: l => by rw [List.map_cons, List.flatten_cons, flat_ints f l, List.flatMap_cons, intsL_append]
theorem flat_one {α : Type} (f : α → AVal) : ∀ l : List α, (l.map fun p => [f p]).flatten = l.map f
  | [] => rfl
  | x :: l => by rw [List.map_cons, List.flatten_cons, flat_one f l]; rfl
theorem at_map {α : Type} {f : α → List AVal} {l : List α} {i : Nat} {x : α} {z : List AVal} (h : l[i]? = some x) (e : (l.map f)[i]? = some z) : z = f x := by
  rw [List.getElem?_map, h] at e; simpa using e.symm
theorem int_at {l : List Int} {i : Nat} {y : AVal} (e : (intsL l)[i]? = some y) : ∃ x, l[i]? = some x ∧ y = .int x := by
  unfold intsL at e
  rw [List.getElem?_map] at e
  cases h : l[i]? with
  | none => rw [h] at e; cases e
  | some x => rw [h] at e; cases e; exact ⟨x, rfl, rfl⟩
theorem W1_compP {elt iter : Expr} {gens : List Comprehension} {pos spos : Pos} {x y : Str} {px py : Pos} {scope : Scope} {Q : Fl → Loc → AHeap → Prop} (ρ₂ : AVal → Loc) (e2 : ∀ v, lset ρ y v = ρ₂ v) (hsw : swapB sc scope y py.line pos.line = true) (hc : compOK scope sc = true) (hx : scope.names.lookup x = some .local)
    (hse : ∀ env y, foldedSetIterable iter env y = pure y) (h : W B d sc ρ iter (CompSrcOK B d sc ρ scope elt x px iter [] gens fun out H₂ => Q .next (ρ₂ (.lst out)) H₂) H) :
    W1 B d sc ρ (.Assign [.Name y py] (.ListComp elt (⟨.Name x px, iter, [], 0⟩ :: gens) scope pos) spos) Q H :=
  W1_comp hsw hc hx hse (by simp only [e2]; exact h)

theorem above_len {rs : List (Int × RowR)} (tr : RowsTree rs) {k : Int} {l : List Int} (h : Above rs k l) : -1 ≤ k → (l.length : Int) ≤ k + 1 := by
  induction h with
  | stop h => intro hk; simp; lia
  | step h0 hm _ ih =>
    rename_i k r l _
    intro hk
    have hp := tr.par _ hm
    dsimp only at hp
    have h1 : -1 ≤ r.parent ∧ r.parent < k := by
      rcases hp with h | ⟨h, r2, h2⟩
      · lia
      · have := tr.nonneg _ h2; dsimp only at this; lia
    have := ih h1.1
    simp only [List.length_cons]; lia

theorem isRight_tail2 (T : Facts B) {v : AVal} {n : Nat} {rs : List (Int × RowR)} {Q : AVal → AHeap → Prop} (g : Good n rs) (hp : IsPrg T H v rs) (q : Q (.bool true) H) : WS B (d + 3) (scp (stAt 43)) [("program", v), ("rows", rowsT rs)] ((bod (stAt 43)).drop 11) (RetQ Q) H := by
  have ok := g.ok
  have sm := g.sm
  have tr := g.tree
  have smlen := sm.len
  refine WS_cons ?_
  refine W1_forF (fun i H' => H' = H) (fun y => [("program", v), ("rows", rowsT rs), ("label", y)]) (by decide +kernel) (by intro y; ktf_call q_lsetk) (by intro _ _; rfl) ?_
  ktf_call q_mm
  refine ⟨_, .inl rfl, by simp; lia, ?_⟩
  rw [rows_keys, sortZ_id (asc_le ok.asc)]
  refine ⟨_, .inl rfl, rfl, fun i y H₂ hy e => ?_, fun H₂ e => ?_⟩
  · subst e
    obtain ⟨k, r0, rfl, hr0⟩ := key_at hy
    have hm0 := List.mem_of_getElem? hr0
    obtain ⟨l, hl⟩ := above_ex tr k.toNat k (Nat.le_refl _) ⟨r0, hm0⟩
    obtain ⟨l0, rfl⟩ : ∃ l0, l = k :: l0 := by
      cases hl with
      | stop h => have := tr.nonneg _ hm0; dsimp only at this; lia
      | step _ _ _ => exact ⟨_, rfl⟩
    refine WS_cons ?_
    refine W1_swap2 (fun y => [("program", v), ("rows", rowsT rs), ("label", .int k), ("here", y)]) (fun x y => [("program", v), ("rows", rowsT rs), ("label", .int k), ("here", y), ("above_here", x)])
      (fun env E => swapped_two E (by decide +kernel) (by decide +kernel) (by decide) (by decide +kernel) (by decide +kernel) (by decide +kernel) (by decide +kernel) (by decide +kernel)) (by intro y; ktf_call q_lsetk) (by intro x y; ktf_call q_lsetk) ?_ (by decide +kernel)
    ktf_call q_mm
    refine W_list ?_
    ktf_call q_mm
    refine ⟨by simp, fun ab h2 => ?_⟩
    ktf_call q_mm
    refine ⟨by simp, _, _, rfl, ?_⟩
    ktf_call q_mm
    refine W1_while (fun m ρ₁ H₁ => ∃ xs h l', ρ₁ = ([("program", v), ("rows", rowsT rs), ("label", .int k), ("here", .int h), ("above_here", .ref ab)] : Loc) ∧ H₁ = upd H₂ ab (some (.list (intsL xs))) ∧ Above rs h (h :: l') ∧ xs ++ l' = k :: l0 ∧ m = l'.length) ⟨_, _, .refl _, [k], k, l0, rfl, rfl, hl, rfl, rfl⟩ ?_
    rintro m ρ₁ H₁ ⟨xs, h, l', rfl, rfl, ha, hx, rfl⟩
    have hxl : xs.length ≤ 100 ∨ 100 < xs.length := by lia
    cases ha with
    | step hh hm2 ha2 =>
      rename_i r
      obtain ⟨i2, hi2⟩ := List.getElem?_of_mem hm2
      ktf_call q_mm
      refine ⟨_, .inl ⟨_, h, .inl rfl, rfl, rows_dget (f := fun _ r => rowT r) ok hi2⟩, ?_⟩
      ktf_call q_mm
      refine ⟨fun hc => ?_, fun hc => ?_⟩
      · have hge := of_decide_eq_true hc
        cases ha2 with
        | stop h3 => lia
        | step h3 hm3 ha3 =>
          rename_i r3 l3
          ktf_call q_mm
          refine ⟨_, .inl ⟨_, h, .inl rfl, rfl, rows_dget (f := fun _ r => rowT r) ok hi2⟩, ?_⟩
          ktf_call q_mm
          refine ⟨ab, _, rfl, upd_self .., ?_⟩
          ktf_call q_mm
          refine ⟨_, upd_self .., ?_, rfl, ?_⟩
          · have := above_len tr hl (by have := tr.nonneg _ hm0; dsimp only at this; lia)
            have hkb : k ≤ 25 := by obtain ⟨j, hj, e, _⟩ := g.mem hm0; have := g.le; dsimp only at e; lia
            have h5 : xs.length ≤ (k :: l0).length := by rw [← hx]; simp
            rw [intsL_len]; lia
          rw [upd_upd, ← intsL_one, ← intsL_append]
          ktf_call q_mm
          refine ⟨l3.length, _, by simp, ?_, xs ++ [r.parent], r.parent, l3, rfl, rfl, .step h3 hm3 ha3, by rw [← hx]; simp, rfl⟩
          ktf_call q_sub
      · have hlt := of_decide_eq_false hc
        cases ha2 with
        | step h3 => lia
        | stop h3 =>
          rw [List.append_nil] at hx
          subst hx
          show WS B _ _ _ _ _ _
          refine WS_freezeL (x := "above_here") (ρ' := [("program", v), ("rows", rowsT rs), ("label", .int k), ("here", .int h), ("above_here", .lst (intsL (k :: l0)))]) h2 (by ktf_call q_lget) (by ktf_call q_lsetk) ?_
          refine WS_cons ?_
          refine W1_forF (fun i H' => H' = H₂) (fun y => [("program", v), ("rows", rowsT rs), ("label", .int k), ("here", .int h), ("above_here", .lst (intsL (k :: l0))), ("other", y)]) (by decide +kernel) (by intro y; ktf_call q_lsetk) (by intro _ _; rfl) ?_
          ktf_call q_mm
          refine ⟨_, .inl rfl, by simp; lia, ?_⟩
          rw [rows_keys, sortZ_id (asc_le ok.asc)]
          refine ⟨_, .inl rfl, rfl, fun i y H₃ hy e => ?_, fun H₃ e => ?_⟩
          · subst e
            obtain ⟨o, ro, rfl, hro⟩ := key_at hy
            have ho0 := tr.nonneg _ (List.mem_of_getElem? hro)
            dsimp only at ho0
            refine WS_cons ?_
            ktf_call q_mm
            refine sees_spec (d := d + 1) T hp ok hl ho0 ?_
            ktf_call q_mm
            refine V2_inL (.inl rfl) ?_
            refine V2_neB ⟨_, rfl, fun z => absurd z (by simp), fun _ => ?_⟩
            ktf_call q_mm
            rfl
          · subst e
            ktf_call q_mm
            rfl
  · subst e
    ktf_call q_mm
    exact q

theorem isRight_tail1 (T : Facts B) {v : AVal} {n : Nat} {rs : List (Int × RowR)} {Q : AVal → AHeap → Prop} (g : Good n rs) (hp : IsPrg T H v rs) (q : Q (.bool true) H) : WS B (d + 3) (scp (stAt 43)) [("program", v), ("rows", rowsT rs)] ((bod (stAt 43)).drop 8) (RetQ Q) H := by
  have ok := g.ok
  have sm := g.sm
  have tr := g.tree
  have smlen := sm.len
  refine WS_cons ?_
  ktf_call q_s
  refine W_dict0 fun a h1 => ?_
  ktf_call q_mm
  refine W1_forF (fun i H' => ∃ L, KidsAt H a L H' ∧ kidL L = kidsOf (rs.take i)) (fun y => [("program", v), ("rows", rowsT rs), ("below_here", .ref a), ("label", y)]) (by decide +kernel) (by intro y; ktf_call q_lsetk) (by intro _ _; rfl) ?_
  ktf_call q_mm
  refine ⟨_, .inl rfl, by simp; lia, ?_⟩
  rw [rows_keys, sortZ_id (asc_le ok.asc)]
  refine ⟨_, .inl rfl, ⟨[], .start h1, rfl⟩, fun i y H₂ hy ⟨L, K, e⟩ => ?_, fun H₂ ⟨L, K, e⟩ => ?_⟩
  · obtain ⟨k, r, rfl, hr⟩ := key_at hy
    have hi : i < rs.length := (List.getElem?_eq_some_iff.mp hr).1
    obtain ⟨s1, s2⟩ := kidsOf_size rs i (Nat.le_of_lt hi)
    rw [← e] at s1 s2
    refine WS_cons ?_
    ktf_call q_mm
    refine ⟨_, .inl ⟨_, k, .inl rfl, rfl, rows_dget (f := fun _ r => rowT r) ok hr⟩, ?_⟩
    ktf_call q_mm
    refine ⟨fun hc => ?_, fun hc => ?_⟩
    · refine WS_cons (W1_kid (k := r.parent) (l := k) (L := L) (a := a) (by ktf_call q_lget) (by ktf_call q_lget) K (by simp [kidL] at s1; lia) (fun t ht => ?_) ?_ (fun L' H'' K' e' => ?_) (by decide +kernel) (by decide +kernel) (by decide +kernel) (by decide +kernel) (by decide) (by decide) (by intro _; with_unfolding_all rfl) (by intro _ _; with_unfolding_all rfl) (by intro _; with_unfolding_all rfl))
      · have := s2 (t.1, t.2.2) (List.mem_map.mpr ⟨t, ht, rfl⟩)
        dsimp only at this; lia
      · ktf_call q_mm
        refine ⟨_, .inl ⟨_, k, .inl rfl, rfl, rows_dget (f := fun _ r => rowT r) ok hr⟩, ?_⟩
        ktf_call q_mm
        exact ⟨rfl, rfl⟩
      · ktf_call q_mm
        refine ⟨L', K', ?_⟩
        rw [take_snoc hr, kidsOf_snoc, if_pos (of_decide_eq_true hc), e', e]
    · ktf_call q_mm
      refine ⟨L, K, ?_⟩
      rw [take_snoc hr, kidsOf_snoc, if_neg (of_decide_eq_false hc), e]
  · rw [show (intsL (rs.map (·.1))).length = rs.length by simp [intsL], List.take_length] at e
    show WS B _ _ _ _ _ _
    have kf := K.froze
    rw [e] at kf
    refine WS_freeze (x := "below_here") (by ktf_call q_lget) kf ?_
    have el : lset [("program", v), ("rows", rowsT rs), ("below_here", .ref a)] "below_here" (.dct (kv (kidsOf rs))) = ([("program", v), ("rows", rowsT rs), ("below_here", .dct (kv (kidsOf rs)))] : Loc) := by ktf_call q_lsetk
    rw [el]
    refine WS_cons ?_
    ktf_call q_mm
    refine childrenOf_spec (d := d + 1) T hp ok sm ?_
    ktf_call q_mm
    refine V2_neD (n := 4) (.inl rfl) (.inl rfl) rfl (kv_same (kidsOf_nodup rs)) (by decide) ⟨_, rfl, by ktf_call q_abs, fun _ => ?_⟩
    refine WS_nil ?_
    show WS B _ _ _ _ _ _
    refine WS_sub (ρ' := [("program", v), ("rows", rowsT rs)]) (by ktf_call q_sub) ?_
    exact isRight_tail2 T g hp q

theorem isRight_spec (T : Facts B) {v : AVal} {n : Nat} {rs : List (Int × RowR)} {Q : AVal → AHeap → Prop} (g : Good n rs) (hp : IsPrg T H v rs) (q : Q (.bool true) H) : CallG B (d + 4) "_law_is_right" [v, rowsT rs] Q H := by
  refine fn_start T 43 ["program", "rows"] (by decide) (by decide +kernel) (by ktf_call q_bind) (by decide +kernel) rfl ?_
  have ok := g.ok
  have sm := g.sm
  have tr := g.tree
  have nn := g.nn
  have smlen := sm.len
  ktf_call q_z
  refine W1_swap2 (fun y => [("program", v), ("rows", rowsT rs), ("waiting", y)]) (fun x y => [("program", v), ("rows", rowsT rs), ("waiting", y), ("met", x)])
    (fun env E => swapped_two E (by decide +kernel) (by decide +kernel) (by decide) (by decide +kernel) (by decide +kernel) (by decide +kernel) (by decide +kernel) (by decide +kernel)) (by intro y; ktf_call q_lsetk) (by intro x y; ktf_call q_lsetk) ?_ (by decide +kernel)
  ktf_call q_mm
  refine W_dict0 fun am h1 => ?_
  ktf_call q_mm
  refine W_list ?_
  ktf_call q_mm
  refine ⟨by simp, fun aw h2 => ?_⟩
  ktf_call q_mm
  refine ⟨by simp, _, _, rfl, ?_⟩
  ktf_call q_mm
  have hne : am ≠ aw := fun z => by rw [← z] at h2; exact absurd ((upd_self ..).symm.trans h2) (by simp)
  let G : List Int → AHeap := fun ks => upd H am (some (.dict (metD ks)))
  refine W1_while (fun m ρ₁ H₁ => ∃ aw ks ws, ρ₁ = ([("program", v), ("rows", rowsT rs), ("waiting", .ref aw), ("met", .ref am)] : Loc) ∧ G ks aw = none ∧ H₁ = upd (G ks) aw (some (.list (intsL ws))) ∧ LInv rs ks ws ∧ m = (rs.length - ks.length) * 100 + ws.length) ⟨_, _, .refl _, aw, [], [10], rfl, h2, rfl, .start rs, rfl⟩ ?_
  rintro m ρ₁ H₁ ⟨aw, ks, ws, rfl, h2, rfl, I, rfl⟩
  have lk := I.len tr
  have wl := I.wl
  have haw : upd (G ks) aw (some (.list (intsL ws))) aw = some (.list (intsL ws)) := upd_self ..
  ktf_call q_mm
  refine W_lst (WL_nil ⟨by simp, ?_⟩)
  refine V2_neL (ms := []) (.inr ⟨aw, rfl, haw⟩) (.inl rfl) ⟨_, rfl, fun hc => ?_, fun hc => ?_⟩
  · have hne' : ws ≠ [] := by simpa using hc
    obtain ⟨ws', k, rfl⟩ : ∃ ws' k, ws = ws' ++ [k] := ⟨ws.dropLast, ws.getLast hne', (List.dropLast_concat_getLast _).symm⟩
    obtain ⟨r, hm⟩ := (I.wk k (by simp)).key tr
    obtain ⟨i, hi⟩ := List.getElem?_of_mem hm
    simp only [List.length_append, List.length_singleton] at wl
    have hma : aw ≠ am := fun z => by rw [z] at h2; exact absurd ((upd_self ..).symm.trans h2) (by simp)
    ktf_call q_mm
    refine ⟨aw, intsL ws', .int k, rfl, by rw [haw, intsL_append]; rfl, by simp [intsL]; lia, ?_⟩
    rw [upd_upd]
    ktf_call q_mm
    have hmd : upd (G ks) aw (some (.list (intsL ws'))) am = some (.dict (metD ks)) := by rw [upd_ne _ _ (Ne.symm hma)]; exact upd_self ..
    refine V2_notInD (.inr ⟨am, rfl, hmd⟩) ⟨_, rfl, ?_⟩
    rw [metD_get]
    refine ⟨fun hc2 => ?_, fun hc2 => ?_⟩
    · have hn : k ∉ ks := by simpa using hc2
      have hl6 := rowLeads_len sm hm
      ktf_call q_mm
      refine U3_setD hmd (by simp [metD]; lia) ?_
      rw [metD_set hn, upd2_comm hma, upd_upd]
      have h3 : G (ks ++ [k]) aw = none := by
        show upd H am _ aw = none
        rw [upd_ne _ _ hma]
        have : upd H am (some (.dict (metD ks))) aw = none := h2
        rwa [upd_ne _ _ hma] at this
      show Cont B _ _ _ _ _ _ (upd (G (ks ++ [k])) aw _)
      show WS B _ _ _ _ _ _
      refine WS_freezeL (x := "waiting") (ρ' := [("program", v), ("rows", rowsT rs), ("waiting", .lst (intsL ws')), ("met", .ref am), ("label", .int k)]) h3 (by ktf_call q_lget) (by ktf_call q_lsetk) ?_
      refine WS_cons ?_
      ktf_call q_mm
      refine ⟨_, .inl ⟨_, k, .inl rfl, rfl, rows_dget (f := fun _ r => rowT r) ok hi⟩, ?_⟩
      ktf_call q_mm
      refine leads_spec (d := d + 2) T (sm.ops _ hm) (sm.labels _ hm) ?_
      refine V2_addS (.inl rfl) (.inl rfl) (fun p hp => ?_) (by simp only [intsL_len]; dsimp only at hl6; lia)
      rw [← intsL_append]
      ktf_call q_mm
      have I2 := LInv.new ok I hn hm hl6
      have lk2 := I2.len tr
      simp only [List.length_append, List.length_singleton] at lk2
      refine ⟨_, _, ?_, ?_, p, ks ++ [k], ws' ++ rowLeads r, rfl, hp, rfl, I2, rfl⟩
      · simp only [List.length_append, List.length_singleton]; dsimp only at hl6; lia
      · ktf_call q_sub
    · have hn : k ∈ ks := by simpa using hc2
      ktf_call q_mm
      refine ⟨_, _, ?_, ?_, aw, ks, ws', rfl, h2, rfl, I.old hn, rfl⟩
      · simp only [List.length_append, List.length_singleton]; lia
      · ktf_call q_sub
  · obtain rfl : ws = [] := by simpa using hc
    have hks := I.done
    have hnd := I.nd
    show WS B _ _ _ _ _ _
    refine WS_freezeL (x := "waiting") (ρ' := [("program", v), ("rows", rowsT rs), ("waiting", .lst (intsL [])), ("met", .ref am)]) h2 (by ktf_call q_lget) (by ktf_call q_lsetk) ?_
    refine WS_freezeD (x := "met") (ρ' := [("program", v), ("rows", rowsT rs), ("waiting", .lst (intsL [])), ("met", .dct (metD ks))]) h1 (by ktf_call q_lget) (by ktf_call q_lsetk) ?_
    refine WS_cons ?_
    ktf_call q_mm
    refine reached_spec (d := d + 1) T hp ok sm tr fun kvs nd hk => ?_
    have hkl : kvs.length < 64 := by
      have := nodup_len (m := rs.map (·.1)) nd fun k h => by
        obtain ⟨r, hr⟩ := ((hk k).mp h).key tr
        exact List.mem_map.mpr ⟨(k, r), hr, rfl⟩
      simp at this; lia
    refine ⟨kvs, .inl rfl, hkl, ?_⟩
    ktf_call q_mm
    refine ⟨metD ks, .inl rfl, by simp [metD]; lia, ?_⟩
    have es : sortZ (kvs.map (·.1)) = sortZ ((metD ks).map (·.1)) := sortZ_same nd (by rw [metD_keys]; exact hnd) fun k => by rw [metD_keys, hk, hks]
    refine V2_neL (.inl rfl) (.inl rfl) ⟨_, rfl, fun hc => absurd hc (by rw [es]; simp), fun _ => ?_⟩
    ktf_call q_mm
    refine readCounts_spec (d := d + 1) T hp ok sm ?_
    ktf_call q_mm
    refine reads_spec (d := d + 2) T ok sm ?_
    ktf_call q_mm
    have hrl : (rs.flatMap fun p => rowReads p.2).length ≤ rs.length * 8 := flat_len fun p hp => rowReads_len sm hp
    refine counted_spec (d := d + 2) T (by lia) ?_
    refine V2_neD (n := 4) (.inl rfl) (.inl rfl) rfl (zv_same (tally_nodup _) fun _ => rfl) (by decide) ⟨_, rfl, by ktf_call q_abs, fun _ => ?_⟩
    ktf_call q_mm
    refine ⟨by ktf_call q_abs, fun _ => ?_⟩
    ktf_call q_mm
    have hll : (rs.flatMap fun p => rowLeads p.2).length ≤ rs.length * 6 := flat_len fun p hp => rowLeads_len sm hp
    refine W1_compP (fun w => [("program", v), ("rows", rowsT rs), ("waiting", .lst (intsL [])), ("met", .dct (metD ks)), ("every", w)]) (by intro w; ktf_call q_lsetk) (by decide +kernel) (by decide +kernel) (by decide +kernel) (by intro _ _; rfl) ?_
    ktf_call q_mm
    refine ⟨_, .inl rfl, by simp; lia, ?_⟩
    rw [rows_keys, sortZ_id (asc_le ok.asc)]
    refine CompP.src (fun y => [("rows", rowsT rs), ("own", y)]) _ (rs.map fun p => intsL (rowLeads p.2)) [("rows", rowsT rs)] (.inl rfl) (by ktf_call q_sub) (by ktf_call q_free) (by rfl) (fun y => by ktf_call q_lsetk) (by simp [intsL]) (by rw [flat_ints, intsL_len]; lia) (fun i y z hy hz => ?_) ?_
    · obtain ⟨k, r, rfl, hr⟩ := key_at hy
      have hm := List.mem_of_getElem? hr
      obtain rfl := at_map (f := fun p : Int × RowR => intsL (rowLeads p.2)) hr hz
      show PureE _ _ _ _ _ _ _ (intsL (rowLeads r)) _
      have e1 : intsL (rowLeads r) = ((rowLeads r).map fun l => [AVal.int l]).flatten := (flat_one AVal.int _).symm
      rw [e1]
      refine PureE_next (fun y => [("rows", rowsT rs), ("own", .int k), ("label", y)]) rfl (by decide +kernel) (by intro _ _; rfl) (by rfl) (fun y => by ktf_call q_lsetk) ?_
      ktf_call q_mm
      refine ⟨_, .inl ⟨_, k, .inl rfl, rfl, rows_dget (f := fun _ r => rowT r) ok hr⟩, ?_⟩
      ktf_call q_mm
      refine leads_spec (d := d + 2) T (sm.ops _ hm) (sm.labels _ hm) ?_
      refine ⟨_, .inl rfl, rfl, by simp [intsL], fun j y z hy hz => ?_⟩
      obtain ⟨l, hl, rfl⟩ := int_at hy
      obtain rfl := at_map (f := fun l : Int => [AVal.int l]) hl hz
      refine PureE_last rfl ?_
      ktf_call q_mm
      exact ⟨rfl, rfl⟩
    rw [flat_ints]
    ktf_call q_mm
    refine labelCounts_spec (d := d + 1) T hp ok sm ?_
    ktf_call q_mm
    refine counted_spec (d := d + 2) T (by lia) ?_
    refine V2_neD (n := 4) (.inl rfl) (.inl rfl) (by simp only [zv, List.length_map]; exact tally_size (labels_perm rs)) (zv_same (tally_nodup _) fun k => tally_perm (labels_perm rs) k) (by decide) ⟨_, rfl, by ktf_call q_abs, fun _ => ?_⟩
    ktf_call q_mm
    have hgl : (givenPairs rs).length ≤ rs.length * 8 := by
      have h : ∀ l : List (Int × RowR), (∀ p ∈ l, p ∈ rs) → (givenPairs l).length ≤ l.length * 8 := by
        intro l
        induction l with
        | nil => intro _; simp [givenPairs]
        | cons p l ih =>
          intro hl
          have h1 := ih fun q hq => hl q (.tail _ hq)
          have h2 := blkGiven_len sm (hl p (.head _))
          unfold givenPairs at h1 ⊢
          simp only [List.flatMap_cons, List.length_append, List.length_map, List.length_cons] at h1 ⊢
          lia
      exact h rs fun _ h => h
    have hgp : (rs.map fun p => (blkGiven p.2).map fun n => AVal.tup [.int n, .int p.1]).flatten = (givenPairs rs).map fun p => AVal.tup [.int p.1, p.2] := by
      unfold givenPairs
      rw [List.map_flatMap]
      simp only [List.map_map]
      rw [List.flatMap_def]
      rfl
    refine W_dictc T ?_ (by decide +kernel)
    refine W_comp (by decide +kernel) (by decide +kernel) (by intro _ _; rfl) ?_
    ktf_call q_mm
    refine ⟨_, .inl rfl, by simp; lia, ?_⟩
    rw [rows_keys, sortZ_id (asc_le ok.asc)]
    refine CompP.src (fun y => [("rows", rowsT rs), ("label", y)]) _ (rs.map fun p => (blkGiven p.2).map fun n => AVal.tup [.int n, .int p.1]) [("rows", rowsT rs)] (.inl rfl) (by ktf_call q_sub) (by ktf_call q_free) (by rfl) (fun y => by ktf_call q_lsetk) (by simp [intsL]) (by rw [hgp, List.length_map]; lia) (fun i y z hy hz => ?_) ?_
    · obtain ⟨k, r, rfl, hr⟩ := key_at hy
      have hm := List.mem_of_getElem? hr
      obtain rfl := at_map (f := fun p : Int × RowR => (blkGiven p.2).map fun n => AVal.tup [.int n, .int p.1]) hr hz
      show PureE _ _ _ _ _ _ _ ((blkGiven r).map fun n => AVal.tup [.int n, .int k]) _
      have e1 : ((blkGiven r).map fun n => AVal.tup [.int n, .int k]) = ((blkGiven r).map fun n => [AVal.tup [.int n, .int k]]).flatten := (flat_one _ _).symm
      rw [e1]
      refine PureE_next (fun y => [("rows", rowsT rs), ("label", .int k), ("var", y)]) rfl (by decide +kernel) (by intro _ _; rfl) (by rfl) (fun y => by ktf_call q_lsetk) ?_
      ktf_call q_mm
      refine ⟨_, .inl ⟨_, k, .inl rfl, rfl, rows_dget (f := fun _ r => rowT r) ok hr⟩, ?_⟩
      ktf_call q_mm
      refine given_spec (d := d + 2) T (sm.ops _ hm) (sm.params _ hm) (sm.results _ hm) (nn.res _ hm) ?_
      refine ⟨_, .inl rfl, rfl, by simp [intsL], fun j y z hy hz => ?_⟩
      obtain ⟨l, hl, rfl⟩ := int_at hy
      obtain rfl := at_map (f := fun l : Int => [AVal.tup [.int l, .int k]]) hl hz
      refine PureE_last rfl ?_
      ktf_call q_mm
      exact ⟨by simp, rfl, rfl⟩
    refine ⟨givenPairs rs, .inl (by rw [hgp]), by lia, ?_⟩
    rw [givenPairs_put]
    ktf_call q_mm
    have hml : (rs.flatMap fun p => rowMade p.2).length ≤ rs.length * 4 := flat_len fun p hp => rowMade_len sm hp
    refine W1_compP (fun w => [("program", v), ("rows", rowsT rs), ("waiting", .lst (intsL [])), ("met", .dct (metD ks)), ("every", .lst (intsL (List.flatMap (fun p => rowLeads p.snd) rs))), ("where", .dct (zv (givenAt rs))), ("made_here", w)]) (by intro w; ktf_call q_lsetk) (by decide +kernel) (by decide +kernel) (by decide +kernel) (by intro _ _; rfl) ?_
    ktf_call q_mm
    refine ⟨_, .inl rfl, by simp; lia, ?_⟩
    rw [rows_keys, sortZ_id (asc_le ok.asc)]
    refine CompP.src (fun y => [("rows", rowsT rs), ("label", y)]) _ (rs.map fun p => intsL (rowMade p.2)) [("rows", rowsT rs)] (.inl rfl) (by ktf_call q_sub) (by ktf_call q_free) (by rfl) (fun y => by ktf_call q_lsetk) (by simp [intsL]) (by rw [flat_ints, intsL_len]; lia) (fun i y z hy hz => ?_) ?_
    · obtain ⟨k, r, rfl, hr⟩ := key_at hy
      have hm := List.mem_of_getElem? hr
      obtain rfl := at_map (f := fun p : Int × RowR => intsL (rowMade p.2)) hr hz
      show PureE _ _ _ _ _ _ _ (intsL (rowMade r)) _
      have e1 : intsL (rowMade r) = (r.ops.map fun o => intsL (opGiven o)).flatten := (flat_ints opGiven r.ops).symm
      rw [e1]
      refine PureE_next (fun y => [("rows", rowsT rs), ("label", .int k), ("op", y)]) rfl (by decide +kernel) (by intro _ _; rfl) (by rfl) (fun y => by ktf_call q_lsetk) ?_
      ktf_call q_mm
      refine ⟨_, .inl ⟨_, k, .inl rfl, rfl, rows_dget (f := fun _ r => rowT r) ok hr⟩, ?_⟩
      ktf_call q_mm
      refine ⟨_, .inl rfl, rfl, by simp, fun j y z hy hz => ?_⟩
      obtain ⟨o, ho, rfl⟩ := ops_at hy
      obtain rfl := at_map (f := fun o : OpR => intsL (opGiven o)) ho hz
      have e1 : intsL (opGiven o) = ((opGiven o).map fun l => [AVal.int l]).flatten := (flat_one AVal.int _).symm
      show PureE _ _ _ _ _ _ _ (intsL (opGiven o)) _
      rw [e1]
      refine PureE_next (fun y => [("rows", rowsT rs), ("label", .int k), ("op", opT o), ("var", y)]) rfl (by decide +kernel) (by intro _ _; rfl) (by rfl) (fun y => by ktf_call q_lsetk) ?_
      refine W_mono (Q := fun x H₁ => x = .lst (intsL (opGiven o)) ∧ H₁ = H) (W_if ?_) ?_
      · ktf_call q_mm
        rw [opGiven_alt (nn.res _ hm o (List.mem_of_getElem? ho))]
        refine ⟨fun hc => ?_, fun hc => ?_⟩
        · ktf_call q_mm
          rw [if_pos hc]; exact ⟨rfl, rfl⟩
        · refine W_lst ?_
          ktf_call q_mm
          rw [if_neg (by rw [hc]; decide)]; exact ⟨by simp, rfl, rfl⟩
      rintro x H₁ ⟨rfl, rfl⟩
      refine ⟨_, .inl rfl, rfl, by simp [intsL], fun j y z hy hz => ?_⟩
      obtain ⟨l, hl, rfl⟩ := int_at hy
      obtain rfl := at_map (f := fun l : Int => [AVal.int l]) hl hz
      refine PureE_last rfl ?_
      ktf_call q_mm
      exact ⟨rfl, rfl⟩
    rw [flat_ints]
    ktf_call q_mm
    refine givenAt_spec (d := d) T hp ok sm ?_
    ktf_call q_mm
    refine V2_neD (n := 4) (.inl rfl) (.inl rfl) rfl (zv_same (givenAt_nodup rs) fun _ => rfl) (by decide) ⟨_, rfl, by ktf_call q_abs, fun _ => ?_⟩
    ktf_call q_mm
    refine makers_spec (d := d + 1) T hp ok sm fun mk hmk => ?_
    have hmkl : mk.length < 64 := by
      have := kuniq_len (rs.flatMap fun p => rowMade p.2)
      rw [← hmk, List.length_map] at this; lia
    refine ⟨mk, .inl rfl, hmkl, ?_⟩
    ktf_call q_mm
    refine counted_spec (d := d + 2) T (by lia) ?_
    refine ⟨_, .inl rfl, by have := tally_len (rs.flatMap fun p => rowMade p.2); simp only [zv, List.length_map]; lia, ?_⟩
    have es2 : sortZ (mk.map (·.1)) = sortZ ((zv (tally (rs.flatMap fun p => rowMade p.2))).map (·.1)) := by rw [hmk, zv_keys, tally_keys]
    refine V2_neL (.inl rfl) (.inl rfl) ⟨_, rfl, fun hc => absurd hc (by rw [es2]; simp), fun _ => ?_⟩
    ktf_call q_e
    refine ⟨by ktf_call q_abs, fun _ => ?_⟩
    refine WS_nil ?_
    show WS B _ _ _ _ _ _
    refine WS_sub (ρ' := [("program", v), ("rows", rowsT rs)]) (by ktf_call q_sub) ?_
    exact isRight_tail1 T g hp q
end


/-! ## a copy, block by block -/

section
variable {B : Base} {H H' : AHeap} {d : Nat} {sc : Scope} {ρ : Loc}

noncomputable abbrev refsN (n : Nat) (oa : Nat → Addr) : List AVal := (List.range n).map fun j => .ref (oa j)
theorem refsN_congr {n : Nat} {f g : Nat → Addr} (h : ∀ j, j < n → f j = g j) : refsN n f = refsN n g := by
  unfold refsN
  exact List.map_congr_left fun j hj => by rw [h j (List.mem_range.mp hj)]

structure BlkIs (T : Facts B) (N : Addr → Prop) (H : AHeap) (b : Addr) (k : Int) (r : RowR) (oa : Nat → Addr) (la : Addr) : Prop where
  nb : N b
  blk : ∃ dx, H b = some (.inst (T.fn 17) dx (blkF k r (.lst (refsN r.ops.length oa)) (.ref la)))
  no : ∀ j, j < r.ops.length → N (oa j)
  ops : ∀ (j : Nat) o, r.ops[j]? = some o → ∃ dx, H (oa j) = some (.inst (T.fn 8) dx (opF o (opDat o)))
  nl : N la
  last : ∃ dx, H la = some (.inst (T.fn 12) dx (lastF r.last))
  inj : ∀ j j', j < r.ops.length → j' < r.ops.length → oa j = oa j' → j = j'

theorem Ext.trans {H H' H'' : AHeap} (x : Ext H H') (y : Ext H' H'') : Ext H H'' := fun b hb => (y b (by rw [x b hb]; exact hb)).trans (x b hb)
theorem Ext.none {H H' : AHeap} (x : Ext H H') {b : Addr} (h : H' b = Option.none) : H b = Option.none := by
  cases q : H b with
  | none => rfl
  | some o => have := x b (by rw [q]; simp); rw [h, q] at this; cases this

theorem copyBlock_spec (T : Facts B) {v : AVal} {k : Int} {r : RowR} {Q : AVal → AHeap → Prop} (hb : IsBlk T H v k r) (ok : RowOK r)
    (q : ∀ b oa la H', Ext H H' → BlkIs T (fun a => H a = none) H' b k r oa la → Q (.ref b) H') : CallG B (d + 4) "copy_block" [v] Q H := by
  refine fn_start T 19 ["block"] (by decide) (by decide +kernel) (by ktf_call q_bind) (by decide +kernel) rfl ?_
  obtain ⟨os, lv, hi, ho, hl⟩ := hb
  ktf_call q_z
  ktf_call q_mm
  refine ⟨_, .inl rfl, by have := ok.params; simp [intsL]; lia, ?_⟩
  ktf_call q_mm
  refine block_new (d := d + 1) T fun b dx ne h1 h2 => ?_
  have hi2 : ∀ fs, IsInst (upd (upd H dx (some (.shadow b))) b (some (.inst (T.fn 17) dx fs))) v (T.fn 17) (blkF k r (.lst os) lv) := fun fs => hi.ext (ext_new h1 h2)
  have i1 := hi2 (blkF k ⟨r.sort, r.params, r.rest, -1, -1, [], ⟨"", -1, [], -1, -1, -1⟩⟩ (.lst []) .none)
  ktf_call q_mm
  have i2 := hi2 (blkF k ⟨r.sort, r.params, r.rest, r.var, -1, [], ⟨"", -1, [], -1, -1, -1⟩⟩ (.lst []) .none)
  ktf_call q_mm
  have i3 := hi2 (blkF k ⟨r.sort, r.params, r.rest, r.var, r.parent, [], ⟨"", -1, [], -1, -1, -1⟩⟩ (.lst []) .none)
  ktf_call q_mm
  obtain ⟨F1, hF1⟩ : ∃ F1, F1 = blkF k ⟨r.sort, r.params, r.rest, r.var, r.parent, [], ⟨"", -1, [], -1, -1, -1⟩⟩ (.lst []) .none := ⟨_, rfl⟩
  obtain ⟨H1, hH1⟩ : ∃ H1, H1 = upd (upd H dx (some (.shadow b))) b (some (.inst (T.fn 17) dx F1)) := ⟨_, rfl⟩
  show W B _ _ _ _ _ (upd (upd H dx (some (.shadow b))) b (some (.inst (T.fn 17) dx (blkF k ⟨r.sort, r.params, r.rest, r.var, r.parent, [], ⟨"", -1, [], -1, -1, -1⟩⟩ (.lst []) .none))))
  rw [← hF1, ← hH1]
  have e1 : Ext H H1 := hH1 ▸ ext_new h1 h2
  have hb1 : H1 b = some (.inst (T.fn 17) dx F1) := by rw [hH1]; exact upd_self ..
  rw [← hF1, ← hH1] at i3
  have hz := ok.ops
  refine W_comp1 (fun y => [("op", y)]) (by decide +kernel) (by decide +kernel) (by intro _ _; rfl) ?_
  ktf_call q_mm
  refine ⟨os, [], fun j out H' => ∃ oa : Nat → Addr, out = refsN j oa ∧ Ext H1 H' ∧ (∀ i, i < j → H1 (oa i) = none ∧ ∃ o dx, r.ops[i]? = some o ∧ H' (oa i) = some (.inst (T.fn 8) dx (opF o (opDat o)))) ∧ ∀ i i', i < j → i' < j → oa i = oa i' → i = i',
    .inl rfl, Sub.nil _, (by ktf_call q_free), fun y => rfl, fun y => Sub.nil _, ⟨fun _ => b, rfl, fun _ _ => rfl, fun i hi => absurd hi (Nat.not_lt_zero _), fun i i' hi => absurd hi (Nat.not_lt_zero _)⟩, fun j y out H' hy ⟨oa, o1, o2, o3, o4⟩ => ?_, fun out H2 ⟨oa, o1, o2, o3, o4⟩ => ?_⟩
  · obtain ⟨o, hoj, iy⟩ := ho.get hy
    have iy2 : IsInst H' y (T.fn 8) (opF o (opDat o)) := IsInst.ext iy (Ext.trans e1 o2)
    have hj : j < r.ops.length := (List.getElem?_eq_some_iff.mp hoj).1
    ktf_call q_mm
    refine ⟨T.fn 8, _, iy2, by rfl, Facts.mt T 8 _ (by decide +kernel), ?_⟩
    ktf_call q_mm
    refine opCopied_spec (d := d) T iy2 (ok.op o (List.mem_of_getElem? hoj)) fun a dxa na n1 n2 => ?_
    have ea : Ext H' (upd (upd H' dxa (some (.shadow a))) a (some (.inst (T.fn 8) dxa (opF o (opDat o))))) := ext_new n1 n2
    have hne : ∀ i, i < j → oa i ≠ a := fun i hi z => by
      obtain ⟨_, _, _, _, z2⟩ := o3 i hi
      rw [z, n1] at z2; cases z2
    refine ⟨by rw [o1]; simp; lia, fun i => if i = j then a else oa i, ?_, Ext.trans o2 ea, fun i hi => ?_, fun i i' hi hi' e => ?_⟩
    · have : refsN (j + 1) (fun i => if i = j then a else oa i) = refsN j oa ++ [.ref a] := by
        unfold refsN
        rw [List.range_succ, List.map_append]
        simp only [List.map_cons, List.map_nil, if_true]
        congr 1
        exact List.map_congr_left fun i hi => by rw [if_neg (Nat.ne_of_lt (List.mem_range.mp hi))]
      rw [this, o1]
    · by_cases hij : i = j
      · subst hij
        dsimp only
        rw [if_pos rfl]
        exact ⟨Ext.none o2 n1, o, dxa, hoj, upd_self ..⟩
      · dsimp only
        rw [if_neg hij]
        obtain ⟨p1, o', dx', p2, p3⟩ := o3 i (by lia)
        exact ⟨p1, o', dx', p2, by rw [ea _ (by rw [p3]; simp)]; exact p3⟩
    · dsimp only at e
      by_cases hij : i = j
      · by_cases hij' : i' = j
        · rw [hij, hij']
        · rw [if_pos hij, if_neg hij'] at e
          exact absurd e.symm (hne i' (by lia))
      · by_cases hij' : i' = j
        · rw [if_neg hij, if_pos hij'] at e
          exact absurd e (hne i (by lia))
        · rw [if_neg hij, if_neg hij'] at e
          exact o4 i i' (by lia) (by lia) e
  rw [ho.length] at o1 o3 o4
  have hb2 : H2 b = some (.inst (T.fn 17) dx F1) := by rw [o2 b (by rw [hb1]; simp)]; exact hb1
  have w : ∀ (lv : AVal) (ov : AVal) (H' : AHeap), Ext H1 H' → ∀ fs, Ext H (upd H' b (some (.inst (T.fn 17) dx fs))) := fun lv ov H' e fs c hc => by
    have hcb : c ≠ b := fun z => hc (by rw [z]; exact h1)
    rw [upd_ne _ _ hcb, e c (by rw [e1 c hc]; exact hc)]
    exact e1 c hc
  have i4 : IsInst (upd H2 b (some (.inst (T.fn 17) dx (blkF k r (.lst out) .none)))) v (T.fn 17) (blkF k r (.lst os) lv) := hi.ext (w .none .none H2 o2 _)
  have hl4 : IsInst (upd H2 b (some (.inst (T.fn 17) dx (blkF k r (.lst out) .none)))) lv (T.fn 12) (lastF r.last) := IsInst.ext hl (w .none .none H2 o2 _)
  have okl := ok.last
  ktf_call q_mm
  refine U2_setattr' (fs' := blkF k r (.lst out) .none) (dx := dx) (C := T.fn 17) (fs := F1) (Facts.fd T 17 _ (by decide +kernel)) hb2 (by rw [hF1]; simp) (by rw [hF1]; rfl) ?_
  ktf_call q_mm
  refine ⟨T.fn 12, _, hl4, by rfl, Facts.mt T 12 _ (by decide +kernel), ?_⟩
  ktf_call q_mm
  refine lastCopied_spec (d := d) T hl4 ok.last fun la dxl nl m1 m2 => ?_
  ktf_call q_mm
  have e3 : Ext H (upd H2 b (some (.inst (T.fn 17) dx (blkF k r (.lst out) .none)))) := w .none .none H2 o2 _
  generalize hH3 : upd H2 b (some (.inst (T.fn 17) dx (blkF k r (.lst out) .none))) = H3 at *
  have hb3 : H3 b = some (.inst (T.fn 17) dx (blkF k r (.lst out) .none)) := by rw [← hH3]; exact upd_self ..
  have e4 : Ext H3 (upd (upd H3 dxl (some (.shadow la))) la (some (.inst (T.fn 12) dxl (lastF r.last)))) := ext_new m1 m2
  have hl4' : upd (upd H3 dxl (some (.shadow la))) la (some (.inst (T.fn 12) dxl (lastF r.last))) la = some (.inst (T.fn 12) dxl (lastF r.last)) := upd_self ..
  generalize hH4 : upd (upd H3 dxl (some (.shadow la))) la (some (.inst (T.fn 12) dxl (lastF r.last))) = H4 at *
  have hb4 : H4 b = some (.inst (T.fn 17) dx (blkF k r (.lst out) .none)) := by rw [e4 b (by rw [hb3]; simp)]; exact hb3
  refine U2_setattr' (fs' := blkF k r (.lst out) (.ref la)) (dx := dx) (C := T.fn 17) (fs := blkF k r (.lst out) .none) (Facts.fd T 17 _ (by decide +kernel)) hb4 (by simp) (by rfl) ?_
  ktf_call q_mm
  have lab : la ≠ b := fun z => by rw [z, hb3] at m1; cases m1
  refine q b oa la _ (fun c hc => ?_) ⟨h1, ⟨dx, by rw [upd_self, o1]⟩, fun j hj => Ext.none e1 (o3 j hj).1, fun j o ho' => ?_, Ext.none e3 m1, ⟨dxl, by rw [upd_ne _ _ lab]; exact hl4'⟩, o4⟩
  · have hcb : c ≠ b := fun z => hc (by rw [z]; exact h1)
    rw [upd_ne _ _ hcb, e4 c (by rw [e3 c hc]; exact hc)]
    exact e3 c hc
  · have hj : j < r.ops.length := (List.getElem?_eq_some_iff.mp ho').1
    obtain ⟨p1, o', dxo, p2, p3⟩ := o3 j hj
    rw [ho'] at p2; cases p2
    have hob : oa j ≠ b := fun z => by rw [z, hb1] at p1; cases p1
    refine ⟨dxo, ?_⟩
    have h3o : H3 (oa j) = some (.inst (T.fn 8) dxo (opF o (opDat o))) := by rw [← hH3, upd_ne _ _ hob]; exact p3
    rw [upd_ne _ _ hob, e4 _ (by rw [h3o]; simp)]; exact h3o
end


/-! ## a program whose parts are all in the store -/

noncomputable def InstKeep (H H' : AHeap) : Prop := ∀ c C dx fs, H c = some (.inst C dx fs) → H' c = some (.inst C dx fs)

section
variable {B : Base} {H H' : AHeap} {d : Nat} {sc : Scope} {ρ : Loc}

theorem BlkIs.mono {T : Facts B} {N N' : Addr → Prop} {b : Addr} {k : Int} {r : RowR} {oa : Nat → Addr} {la : Addr} (h : BlkIs T N H b k r oa la) (e : InstKeep H H') (n : ∀ a, N a → N' a) : BlkIs T N' H' b k r oa la :=
  ⟨n _ h.nb, let ⟨dx, x⟩ := h.blk; ⟨dx, e _ _ _ _ x⟩, fun j hj => n _ (h.no j hj), fun j o ho => let ⟨dx, x⟩ := h.ops j o ho; ⟨dx, e _ _ _ _ x⟩, n _ h.nl, let ⟨dx, x⟩ := h.last; ⟨dx, e _ _ _ _ x⟩, h.inj⟩

structure PMs (T : Facts B) (N : Addr → Prop) (H : AHeap) (p dx t : Addr) (kvs : List (Int × AVal)) (rs : List (Int × RowR)) (ba : Nat → Addr) (oa : Nat → Nat → Addr) (la : Nat → Addr) : Prop where
  np : N p
  nt : N t
  hp : H p = some (.inst (T.fn 18) dx [("table", .ref t), ("entry", .int 10)])
  ht : H t = some (.dict kvs)
  len : kvs.length = rs.length
  at_ : ∀ (i : Nat) k r, rs[i]? = some (k, r) → kvs[i]? = some (k, .ref (ba i))
  blk : ∀ (i : Nat) k r, rs[i]? = some (k, r) → BlkIs T N H (ba i) k r (oa i) (la i)
  oinj : ∀ (i j i' j' : Nat) k r k' r', rs[i]? = some (k, r) → rs[i']? = some (k', r') → j < r.ops.length → j' < r'.ops.length → oa i j = oa i' j' → i = i'
  linj : ∀ (i i' : Nat), i < rs.length → i' < rs.length → la i = la i' → i = i'
noncomputable def IsPM (T : Facts B) (N : Addr → Prop) (H : AHeap) (v : AVal) (rs : List (Int × RowR)) : Prop := ∃ p dx t kvs ba oa la, v = .ref p ∧ PMs T N H p dx t kvs rs ba oa la

theorem All2.of {α β : Type} {R : α → β → Prop} : ∀ {as : List α} {bs : List β}, as.length = bs.length → (∀ (i : Nat) a b, as[i]? = some a → bs[i]? = some b → R a b) → All2 R as bs
  | [], [], _, _ => .nil
  | [], _ :: _, h, _ => by cases h
  | _ :: _, [], h, _ => by cases h
  | a :: as, b :: bs, h, k => .cons (k 0 a b rfl rfl) (All2.of (by simpa using h) fun i x y p q => k (i + 1) x y (by simpa using p) (by simpa using q))

theorem BlkIs.is {T : Facts B} {N : Addr → Prop} {b : Addr} {k : Int} {r : RowR} {oa : Nat → Addr} {la : Addr} (h : BlkIs T N H b k r oa la) : IsBlk T H (.ref b) k r := by
  obtain ⟨dx, x⟩ := h.blk
  obtain ⟨dl, y⟩ := h.last
  refine ⟨_, _, .inr ⟨b, dx, rfl, x⟩, All2.of (by simp) fun j a o ha ho => ?_, .inr ⟨la, dl, rfl, y⟩⟩
  have hj : j < r.ops.length := (List.getElem?_eq_some_iff.mp ho).1
  have : a = .ref (oa j) := by
    rw [List.getElem?_map, List.getElem?_range hj] at ha
    simpa using ha.symm
  subst this
  obtain ⟨dx, x⟩ := h.ops j o ho
  exact .inr ⟨oa j, dx, rfl, x⟩
theorem PMs.is {T : Facts B} {N : Addr → Prop} {p dx t : Addr} {kvs : List (Int × AVal)} {rs : List (Int × RowR)} {ba : Nat → Addr} {oa : Nat → Nat → Addr} {la : Nat → Addr} (h : PMs T N H p dx t kvs rs ba oa la) : IsPrg T H (.ref p) rs := by
  refine ⟨.ref t, kvs, .inr ⟨p, dx, rfl, h.hp⟩, .inr ⟨t, rfl, h.ht⟩, All2.of h.len fun i q r hq hr => ?_⟩
  have h1 := h.at_ i r.1 r.2 hr
  rw [hq] at h1
  cases h1
  exact ⟨rfl, (h.blk i r.1 r.2 hr).is⟩
theorem IsPM.is {T : Facts B} {N : Addr → Prop} {v : AVal} {rs : List (Int × RowR)} (h : IsPM T N H v rs) : IsPrg T H v rs := by
  obtain ⟨p, dx, t, kvs, ba, oa, la, rfl, h⟩ := h; exact h.is

theorem PMs.push {T : Facts B} {N : Addr → Prop} {H2 H3 : AHeap} {p dx t : Addr} {kvs : List (Int × AVal)} {rs : List (Int × RowR)} {ba : Nat → Addr} {oa : Nat → Nat → Addr} {la : Nat → Addr} {i : Nat} {k : Int} {r : RowR} {b : Addr} {oa' : Nat → Addr} {la' : Addr}
    (P : PMs T N H2 p dx t kvs (rs.take i) ba oa la) (hN : ∀ a, H2 a = none → N a) (hr : rs[i]? = some (k, r)) (nd : k ∉ kvs.map (·.1)) (e3 : Ext H2 H3) (K : BlkIs T (fun a => H2 a = none) H3 b k r oa' la') :
    PMs T N (upd H3 t (some (.dict (dset kvs k (.ref b))))) p dx t (dset kvs k (.ref b)) (rs.take (i + 1)) (fun x => if x = i then b else ba x) (fun x => if x = i then oa' else oa x) (fun x => if x = i then la' else la x) := by
  have hi : i < rs.length := (List.getElem?_eq_some_iff.mp hr).1
  have hpt : p ≠ t := fun z => by have := P.hp; rw [z, P.ht] at this; cases this
  have ht3 : H3 t = some (.dict kvs) := by rw [e3 t (by rw [P.ht]; simp)]; exact P.ht
  have hk3 : InstKeep H3 (upd H3 t (some (.dict (dset kvs k (.ref b))))) := fun c C dxc fs hc => by
    have : c ≠ t := fun z => by rw [z, ht3] at hc; cases hc
    rw [upd_ne _ _ this]; exact hc
  have hk2 : InstKeep H2 H3 := fun c C dxc fs hc => by rw [e3 c (by rw [hc]; simp)]; exact hc
  have len : kvs.length = i := by have := P.len; rw [List.length_take] at this; lia
  have cut : ∀ (x : Nat) (kr : Int × RowR), (rs.take (i + 1))[x]? = some kr → (x < i ∧ (rs.take i)[x]? = some kr) ∨ (x = i ∧ kr = (k, r)) := fun x kr e => by
    rw [List.getElem?_take] at e
    split at e
    · rename_i hx
      by_cases h : x = i
      · subst h; rw [hr] at e; exact .inr ⟨rfl, (Option.some.inj e).symm⟩
      · refine .inl ⟨by lia, ?_⟩
        rw [List.getElem?_take, if_pos (by lia)]; exact e
    · cases e
  have fresh : ∀ x j k' r', (rs.take i)[x]? = some (k', r') → j < r'.ops.length → ∀ j', j' < r.ops.length → oa x j ≠ oa' j' := fun x j k' r' hx hj j' hj' z => by
    have hj2 : r'.ops[j]? = some r'.ops[j] := by simp [hj]
    obtain ⟨dxo, ho⟩ := (P.blk x k' r' hx).ops j _ hj2
    have h2 : H2 (oa' j') = none := K.no j' hj'
    rw [← z, ho] at h2; cases h2
  have freshl : ∀ x, x < i → la x ≠ la' := fun x hx z => by
    have hx2 : (rs.take i)[x]? = some rs[x] := by rw [List.getElem?_take, if_pos hx]; simp
    obtain ⟨dxl, hl⟩ := (P.blk x rs[x].1 rs[x].2 hx2).last
    have h2 : H2 la' = none := K.nl
    rw [← z, hl] at h2; cases h2
  refine ⟨P.np, P.nt, hk3 _ _ _ _ (hk2 _ _ _ _ P.hp), upd_self .., ?_, fun x k' r' e => ?_, fun x k' r' e => ?_, fun x j x' j' k1 r1 k2 r2 h1 h2 hj hj' e => ?_, fun x x' hx hx' e => ?_⟩
  · rw [dset_new nd, List.length_append, len, List.length_take]; simp; lia
  · rw [dset_new nd]
    rcases cut x _ e with ⟨hx, e'⟩ | ⟨rfl, e'⟩
    · rw [if_neg (by lia), List.getElem?_append_left (by lia)]; exact P.at_ x k' r' e'
    · cases e'
      rw [if_pos rfl, List.getElem?_append_right (by lia), len]; simp
  · rcases cut x _ e with ⟨hx, e'⟩ | ⟨rfl, e'⟩
    · rw [if_neg (by lia), if_neg (by lia), if_neg (by lia)]
      exact ((P.blk x k' r' e').mono hk2 fun _ h => h).mono hk3 fun _ h => h
    · cases e'
      simp only [if_true]
      exact K.mono hk3 hN
  · (try dsimp only at e)
    rcases cut x _ h1 with ⟨hx, e1⟩ | ⟨rfl, e1⟩
    · rcases cut x' _ h2 with ⟨hx', e2⟩ | ⟨rfl, e2⟩
      · rw [if_neg (by lia), if_neg (by lia)] at e
        exact P.oinj x j x' j' k1 r1 k2 r2 e1 e2 hj hj' e
      · cases e2
        rw [if_neg (by lia), if_pos rfl] at e
        exact absurd e (fresh x j k1 r1 e1 hj j' hj')
    · cases e1
      rcases cut x' _ h2 with ⟨hx', e2⟩ | ⟨rfl, e2⟩
      · rw [if_pos rfl, if_neg (by lia)] at e
        exact absurd e.symm (fresh x' j' k2 r2 e2 hj' j hj)
      · rfl
  · (try dsimp only at e)
    simp only [List.length_take] at hx hx'
    by_cases h1 : x = i
    · by_cases h2 : x' = i
      · rw [h1, h2]
      · rw [if_pos h1, if_neg h2] at e
        exact absurd e.symm (freshl x' (by lia))
    · by_cases h2 : x' = i
      · rw [if_neg h1, if_pos h2] at e
        exact absurd e (freshl x (by lia))
      · rw [if_neg h1, if_neg h2] at e
        exact P.linj x x' (by simp; lia) (by simp; lia) e

theorem copied_spec (T : Facts B) {v : AVal} {rs : List (Int × RowR)} {Q : AVal → AHeap → Prop} (hp : IsPrg T H v rs) (ok : RowsOK rs) (q : ∀ v' H', Ext H H' → IsPM T (fun a => H a = none) H' v' rs → Q v' H') : CallM B (d + 5) (T.fn 18) "copied" [v] Q H := by
  refine me_start T 18 4 ["self"] (by decide) (by decide +kernel) (by ktf_call q_bind) (by decide +kernel) rfl ?_
  have hp0 := hp
  obtain ⟨tv, tkv, ip, itv, itab⟩ := hp
  have hz := ok.len
  ktf_call q_z
  ktf_call q_mm
  refine prog_new (d := d + 2) T fun p dx t n1 n2 n3 h1 h2 h3 => ?_
  obtain ⟨H1, hH1⟩ : ∃ H1, H1 = upd (upd (upd H dx (some (.shadow p))) p (some (.inst (T.fn 18) dx [("table", .ref t), ("entry", .int 10)]))) t (some (.dict [])) := ⟨_, rfl⟩
  rw [← hH1]
  have e1 : Ext H H1 := fun c hc => by
    rw [hH1, upd_ne _ _ fun (z : c = t) => hc (by rw [z]; exact h3), upd_ne _ _ fun (z : c = p) => hc (by rw [z]; exact h1), upd_ne _ _ fun (z : c = dx) => hc (by rw [z]; exact h2)]
  have hp1 : H1 p = some (.inst (T.fn 18) dx [("table", .ref t), ("entry", .int 10)]) := by rw [hH1, upd_ne _ _ (Ne.symm n2), upd_self]
  have ht1 : H1 t = some (.dict []) := by rw [hH1, upd_self]
  ktf_call q_mm
  refine W1_forF (fun i H' => ∃ kvs ba oa la, Ext H H' ∧ PMs T (fun a => H a = none) H' p dx t kvs (rs.take i) ba oa la) (fun y => [("self", v), ("found", .ref p), ("label", y)]) (by decide +kernel) (by intro y; ktf_call q_lsetk) (by intro _ _; rfl) ?_
  have ip1 : IsInst H1 v (T.fn 18) [("table", tv), ("entry", .int 10)] := ip.ext e1
  ktf_call q_mm
  refine ⟨T.fn 18, _, ip1, by rfl, Facts.mt T 18 _ (by decide +kernel), ?_⟩
  ktf_call q_mm
  refine prgLabels_spec (d := d + 3) T (hp0.ext e1) ok ?_
  refine ⟨_, .inl rfl, ⟨[], fun _ => p, fun _ _ => p, fun _ => p, e1, h1, h3, hp1, ht1, rfl, fun i k r e => by simp at e, fun i k r e => by simp at e, fun i j i' j' k r k' r' e => by simp at e, fun i i' hi => by simp at hi⟩, fun i y H₂ hy ⟨kvs, ba, oa, la, eH, P⟩ => ?_, fun H₂ ⟨kvs, ba, oa, la, eH, P⟩ => ?_⟩
  · obtain ⟨k, r, rfl, hr⟩ := key_at hy
    have hm := List.mem_of_getElem? hr
    have hi : i < rs.length := (List.getElem?_eq_some_iff.mp hr).1
    refine WS_cons ?_
    have ip2 : IsInst H₂ v (T.fn 18) [("table", tv), ("entry", .int 10)] := ip.ext eH
    have ipf : IsInst H₂ (.ref p) (T.fn 18) [("table", .ref t), ("entry", .int 10)] := .inr ⟨p, dx, rfl, P.hp⟩
    ktf_call q_mm
    refine ⟨T.fn 18, _, ipf, by rfl, Facts.mt T 18 _ (by decide +kernel), ?_⟩
    ktf_call q_mm
    obtain ⟨bv, hbv, hblk⟩ := itab.at_ ok hr
    refine ⟨bv, .inl ⟨tkv, k, itv.ext eH, rfl, hbv⟩, ?_⟩
    ktf_call q_mm
    refine copyBlock_spec (d := d) T (hblk.ext eH) (ok.row _ hm) fun b oa' la' H3 e3 K => ?_
    ktf_call q_mm
    have hp3 : H3 p = some (.inst (T.fn 18) dx [("table", .ref t), ("entry", .int 10)]) := by rw [e3 p (by rw [P.hp]; simp)]; exact P.hp
    have ht3 : H3 t = some (.dict kvs) := by rw [e3 t (by rw [P.ht]; simp)]; exact P.ht
    obtain ⟨dxb, hb3⟩ := K.blk
    have klen := P.len
    simp only [List.length_take] at klen
    refine put_spec (d := d + 3) T (.inr ⟨p, dx, rfl, hp3⟩) ht3 (by lia) (.inr ⟨b, dxb, rfl, hb3⟩) ⟨rfl, ?_⟩
    ktf_call q_mm
    have keys : kvs.map (·.1) = (rs.take i).map (·.1) := by
      refine List.ext_getElem? fun x => ?_
      rw [List.getElem?_map, List.getElem?_map]
      by_cases hx : x < (rs.take i).length
      · have e : (rs.take i)[x]? = some (rs.take i)[x] := List.getElem?_eq_getElem hx
        rw [P.at_ x _ _ e, e]; rfl
      · have e1 : (rs.take i)[x]? = none := by rw [List.getElem?_eq_none_iff]; lia
        have e2 : kvs[x]? = none := by rw [List.getElem?_eq_none_iff, P.len]; lia
        rw [e1, e2]; rfl
    have hn : k ∉ kvs.map (·.1) := by
      rw [keys, List.map_take]
      exact asc_take (asc_nodup ok.asc) (by rw [List.getElem?_map, hr]; rfl)
    refine ⟨_, _, _, _, fun c hc => ?_, P.push (fun a h => Ext.none eH h) hr hn e3 K⟩
    have hct : c ≠ t := fun z => hc (by rw [z]; exact h3)
    rw [upd_ne _ _ hct, e3 c (by rw [eH c hc]; exact hc)]
    exact eH c hc
  · rw [show (intsL (rs.map (·.1))).length = rs.length by simp [intsL], List.take_length] at P
    ktf_call q_mm
    exact q _ _ eH ⟨p, dx, t, kvs, ba, oa, la, rfl, P⟩
end


/-! ## parts of a copy that change -/

section
variable {B : Base} {H H' : AHeap} {d : Nat} {sc : Scope} {ρ : Loc}

theorem inst_ne {H : AHeap} {a b C C' dx dx' : Addr} {fs fs' : List (Str × AVal)} (h : H a = some (.inst C dx fs)) (h' : H b = some (.inst C' dx' fs')) (n : fs.length ≠ fs'.length) : a ≠ b := fun z => by
  rw [z, h'] at h; cases h; exact n rfl
theorem dict_ne {H : AHeap} {a b C dx : Addr} {fs : List (Str × AVal)} {kvs : List (Int × AVal)} (h : H a = some (.inst C dx fs)) (h' : H b = some (.dict kvs)) : a ≠ b := fun z => by
  rw [z, h'] at h; cases h

theorem PMs.frame {T : Facts B} {N : Addr → Prop} {p dx t : Addr} {kvs : List (Int × AVal)} {rs : List (Int × RowR)} {ba : Nat → Addr} {oa : Nat → Nat → Addr} {la : Nat → Addr} (P : PMs T N H p dx t kvs rs ba oa la) (e : ∀ a, N a → H' a = H a) : PMs T N H' p dx t kvs rs ba oa la := by
  refine ⟨P.np, P.nt, (e _ P.np).trans P.hp, (e _ P.nt).trans P.ht, P.len, P.at_, fun i k r h => ?_, P.oinj, P.linj⟩
  have K := P.blk i k r h
  exact ⟨K.nb, let ⟨x, y⟩ := K.blk; ⟨x, (e _ K.nb).trans y⟩, K.no, fun j o ho => let ⟨x, y⟩ := K.ops j o ho; ⟨x, (e _ (K.no j (List.getElem?_eq_some_iff.mp ho).1)).trans y⟩, K.nl, let ⟨x, y⟩ := K.last; ⟨x, (e _ K.nl).trans y⟩, K.inj⟩
theorem IsPM.frame {T : Facts B} {N : Addr → Prop} {v : AVal} {rs : List (Int × RowR)} (h : IsPM T N H v rs) (e : ∀ a, N a → H' a = H a) : IsPM T N H' v rs := by
  obtain ⟨p, dx, t, kvs, ba, oa, la, rfl, P⟩ := h
  exact ⟨p, dx, t, kvs, ba, oa, la, rfl, P.frame e⟩
theorem IsPM.narrow {T : Facts B} {N : Addr → Prop} {v : AVal} {rs : List (Int × RowR)} (h : IsPM T N H v rs) : IsPM T (fun a => N a ∧ H a ≠ none) H v rs := by
  obtain ⟨p, dx, t, kvs, ba, oa, la, rfl, P⟩ := h
  refine ⟨p, dx, t, kvs, ba, oa, la, rfl, ⟨P.np, by rw [P.hp]; simp⟩, ⟨P.nt, by rw [P.ht]; simp⟩, P.hp, P.ht, P.len, P.at_, fun i k r h => ?_, P.oinj, P.linj⟩
  have K := P.blk i k r h
  refine ⟨⟨K.nb, ?_⟩, K.blk, fun j hj => ⟨K.no j hj, ?_⟩, K.ops, ⟨K.nl, ?_⟩, K.last, K.inj⟩
  · obtain ⟨x, y⟩ := K.blk; rw [y]; simp
  · obtain ⟨x, y⟩ := K.ops j r.ops[j] (by simp [hj]); rw [y]; simp
  · obtain ⟨x, y⟩ := K.last; rw [y]; simp

theorem set_at {α : Type} {l : List α} {i x : Nat} {a b : α} (h : (l.set i a)[x]? = some b) : (x = i ∧ b = a) ∨ (x ≠ i ∧ l[x]? = some b) := by
  by_cases hx : x = i
  · subst hx
    have hl : x < l.length := by have := (List.getElem?_eq_some_iff.mp h).1; simpa using this
    rw [List.getElem?_set_self hl] at h
    exact .inl ⟨rfl, (Option.some.inj h).symm⟩
  · rw [List.getElem?_set_ne (Ne.symm hx)] at h
    exact .inr ⟨hx, h⟩

/-- one row is told anew, one place of the store changes -/
theorem PMs.put {T : Facts B} {N : Addr → Prop} {p dx t : Addr} {kvs : List (Int × AVal)} {rs : List (Int × RowR)} {ba : Nat → Addr} {oa : Nat → Nat → Addr} {la : Nat → Addr} (P : PMs T N H p dx t kvs rs ba oa la) {i : Nat} {k : Int} {r r' : RowR} (hr : rs[i]? = some (k, r)) (hl : r'.ops.length = r.ops.length) {c : Addr} {o : Option AObj}
    (cp : c ≠ p) (ct : c ≠ t) (hK : BlkIs T N (upd H c o) (ba i) k r' (oa i) (la i))
    (hb : ∀ (x : Nat) k' r'', x ≠ i → rs[x]? = some (k', r'') → ba x ≠ c ∧ (∀ j, j < r''.ops.length → oa x j ≠ c) ∧ la x ≠ c) : PMs T N (upd H c o) p dx t kvs (rs.set i (k, r')) ba oa la := by
  have hi : i < rs.length := (List.getElem?_eq_some_iff.mp hr).1
  refine ⟨P.np, P.nt, by rw [upd_ne _ _ (Ne.symm cp)]; exact P.hp, by rw [upd_ne _ _ (Ne.symm ct)]; exact P.ht, by rw [P.len]; simp, fun x k' r'' e => ?_, fun x k' r'' e => ?_, fun x j x' j' k1 r1 k2 r2 h1 h2 hj hj' e => ?_, fun x x' h1 h2 e => P.linj x x' (by simpa using h1) (by simpa using h2) e⟩
  · rcases set_at e with ⟨rfl, e'⟩ | ⟨hx, e'⟩
    · cases e'; exact P.at_ x k r hr
    · exact P.at_ x k' r'' e'
  · rcases set_at e with ⟨rfl, e'⟩ | ⟨hx, e'⟩
    · cases e'; exact hK
    · have K := P.blk x k' r'' e'
      obtain ⟨g1, g2, g3⟩ := hb x k' r'' hx e'
      exact ⟨K.nb, let ⟨a, b⟩ := K.blk; ⟨a, by rw [upd_ne _ _ g1]; exact b⟩, K.no, fun j o ho => let ⟨a, b⟩ := K.ops j o ho; ⟨a, by rw [upd_ne _ _ (g2 j (List.getElem?_eq_some_iff.mp ho).1)]; exact b⟩, K.nl, let ⟨a, b⟩ := K.last; ⟨a, by rw [upd_ne _ _ g3]; exact b⟩, K.inj⟩
  · have f : ∀ (x : Nat) k1 r1, (rs.set i (k, r'))[x]? = some (k1, r1) → ∃ k0 r0, rs[x]? = some (k0, r0) ∧ r0.ops.length = r1.ops.length := fun x k1 r1 h => by
      rcases set_at h with ⟨rfl, e'⟩ | ⟨hx, e'⟩
      · cases e'; exact ⟨k, r, hr, hl.symm⟩
      · exact ⟨k1, r1, e', rfl⟩
    obtain ⟨ka, ra, a1, a2⟩ := f x k1 r1 h1
    obtain ⟨kb, rb, b1, b2⟩ := f x' k2 r2 h2
    exact P.oinj x j x' j' ka ra kb rb a1 b1 (by lia) (by lia) e

theorem PMs.setOp {T : Facts B} {N : Addr → Prop} {p dx t : Addr} {kvs : List (Int × AVal)} {rs : List (Int × RowR)} {ba : Nat → Addr} {oa : Nat → Nat → Addr} {la : Nat → Addr} (P : PMs T N H p dx t kvs rs ba oa la) {i j : Nat} {k : Int} {r : RowR} {o o' : OpR} (hr : rs[i]? = some (k, r)) (ho : r.ops[j]? = some o) {dxo : Addr} (hH : H (oa i j) = some (.inst (T.fn 8) dxo (opF o (opDat o)))) :
    PMs T N (upd H (oa i j) (some (.inst (T.fn 8) dxo (opF o' (opDat o'))))) p dx t kvs (rs.set i (k, { r with ops := r.ops.set j o' })) ba oa la := by
  have K := P.blk i k r hr
  have hj : j < r.ops.length := (List.getElem?_eq_some_iff.mp ho).1
  obtain ⟨dxb, hB⟩ := K.blk
  obtain ⟨dxl, hL⟩ := K.last
  refine P.put hr (by simp) (inst_ne hH P.hp (by simp)) (dict_ne hH P.ht) ⟨K.nb, ⟨dxb, ?_⟩, fun x hx => K.no x (by simpa using hx), fun x o2 h2 => ?_, K.nl, ⟨dxl, ?_⟩, fun a b ha hb => K.inj a b (by simpa using ha) (by simpa using hb)⟩ fun x k' r'' hx hx2 => ?_
  · rw [upd_ne _ _ (inst_ne hB hH (by simp))]
    rw [hB]; simp
  · rcases set_at h2 with ⟨rfl, e⟩ | ⟨hne, e⟩
    · subst e; exact ⟨dxo, upd_self ..⟩
    · obtain ⟨dx2, h3⟩ := K.ops x o2 e
      have : oa i x ≠ oa i j := fun z => hne (K.inj x j (List.getElem?_eq_some_iff.mp e).1 hj z)
      exact ⟨dx2, by rw [upd_ne _ _ this]; exact h3⟩
  · rw [upd_ne _ _ (inst_ne hL hH (by simp))]; exact hL
  · have K2 := P.blk x k' r'' hx2
    obtain ⟨a1, b1⟩ := K2.blk
    obtain ⟨a2, b2⟩ := K2.last
    exact ⟨inst_ne b1 hH (by simp), fun j' hj' z => hx (P.oinj x j' i j k' r'' k r hx2 hr hj' hj z), inst_ne b2 hH (by simp)⟩
theorem PMs.setLast {T : Facts B} {N : Addr → Prop} {p dx t : Addr} {kvs : List (Int × AVal)} {rs : List (Int × RowR)} {ba : Nat → Addr} {oa : Nat → Nat → Addr} {la : Nat → Addr} (P : PMs T N H p dx t kvs rs ba oa la) {i : Nat} {k : Int} {r : RowR} {l' : LastR} (hr : rs[i]? = some (k, r)) {dxl : Addr} (hH : H (la i) = some (.inst (T.fn 12) dxl (lastF r.last))) :
    PMs T N (upd H (la i) (some (.inst (T.fn 12) dxl (lastF l')))) p dx t kvs (rs.set i (k, { r with last := l' })) ba oa la := by
  have K := P.blk i k r hr
  have hi : i < rs.length := (List.getElem?_eq_some_iff.mp hr).1
  obtain ⟨dxb, hB⟩ := K.blk
  refine P.put (r' := { r with last := l' }) hr rfl (inst_ne hH P.hp (by simp)) (dict_ne hH P.ht) ⟨K.nb, ⟨dxb, ?_⟩, K.no, fun x o2 h2 => ?_, K.nl, ⟨dxl, upd_self ..⟩, K.inj⟩ fun x k' r'' hx hx2 => ?_
  · rw [upd_ne _ _ (inst_ne hB hH (by simp))]; exact hB
  · obtain ⟨dx2, h3⟩ := K.ops x o2 h2
    exact ⟨dx2, by rw [upd_ne _ _ (inst_ne h3 hH (by simp))]; exact h3⟩
  · have K2 := P.blk x k' r'' hx2
    obtain ⟨a1, b1⟩ := K2.blk
    refine ⟨inst_ne b1 hH (by simp), fun j' hj' => ?_, fun z => hx (P.linj x i (List.getElem?_eq_some_iff.mp hx2).1 hi z)⟩
    obtain ⟨a2, b2⟩ := K2.ops j' r''.ops[j'] (by simp [hj'])
    exact inst_ne b2 hH (by simp)
noncomputable def lblOf : Option AObj → Int
  | some (.inst _ _ ((_, .int z) :: _)) => z
  | _ => 0
theorem PMs.setPar {T : Facts B} {N : Addr → Prop} {p dx t : Addr} {kvs : List (Int × AVal)} {rs : List (Int × RowR)} {ba : Nat → Addr} {oa : Nat → Nat → Addr} {la : Nat → Addr} (P : PMs T N H p dx t kvs rs ba oa la) (nd : (rs.map (·.1)).Nodup) {i : Nat} {k q : Int} {r : RowR} (hr : rs[i]? = some (k, r)) {dxb : Addr} (hH : H (ba i) = some (.inst (T.fn 17) dxb (blkF k r (.lst (refsN r.ops.length (oa i))) (.ref (la i))))) :
    PMs T N (upd H (ba i) (some (.inst (T.fn 17) dxb (blkF k { r with parent := q } (.lst (refsN r.ops.length (oa i))) (.ref (la i)))))) p dx t kvs (rs.set i (k, { r with parent := q })) ba oa la := by
  have K := P.blk i k r hr
  obtain ⟨dxl, hL⟩ := K.last
  refine P.put (r' := { r with parent := q }) hr rfl (inst_ne hH P.hp (by simp)) (dict_ne hH P.ht) ⟨K.nb, ⟨dxb, upd_self ..⟩, K.no, fun x o2 h2 => ?_, K.nl, ⟨dxl, ?_⟩, K.inj⟩ fun x k' r'' hx hx2 => ?_
  · obtain ⟨dx2, h3⟩ := K.ops x o2 h2
    exact ⟨dx2, by rw [upd_ne _ _ (inst_ne h3 hH (by simp))]; exact h3⟩
  · rw [upd_ne _ _ (inst_ne hL hH (by simp))]; exact hL
  · have K2 := P.blk x k' r'' hx2
    obtain ⟨a1, b1⟩ := K2.blk
    obtain ⟨a2, b2⟩ := K2.last
    refine ⟨fun z => ?_, fun j' hj' => ?_, inst_ne b2 hH (by simp)⟩
    · rw [z, hH] at b1
      have hkk : k = k' := congrArg lblOf b1
      subst hkk
      have e1 : (rs.map (·.1))[i]? = some k := by rw [List.getElem?_map, hr]; rfl
      have e2 : (rs.map (·.1))[x]? = some k := by rw [List.getElem?_map, hx2]; rfl
      exact hx ((List.getElem?_inj (List.getElem?_eq_some_iff.mp e2).1 nd).mp (e2.trans e1.symm))
    · obtain ⟨a3, b3⟩ := K2.ops j' r''.ops[j'] (by simp [hj'])
      exact inst_ne b3 hH (by simp)
end


/-! ## renames -/

noncomputable def zend (m : List (Int × Int)) : Nat → Int → Int
  | 0, x => x
  | n + 1, x => match zget m x with
    | none => x
    | some y => zend m n y
noncomputable def endOf (m : List (Int × Int)) (x : Int) : Int := zend m 15 x
structure MOK (m : List (Int × Int)) : Prop where
  up : ∀ k v, zget m k = some v → 1 ≤ k ∧ k < v ∧ v ≤ 14
  len : m.length ≤ 100
theorem endOf_nil (x : Int) : endOf [] x = x := rfl
theorem endOf_neg {m : List (Int × Int)} (ok : MOK m) {x : Int} (h : ¬ x ≥ 0) : endOf m x = x := by
  have e : zget m x = none := by
    cases q : zget m x with
    | none => rfl
    | some v => have := ok.up x v q; lia
  unfold endOf zend
  rw [e]

noncomputable abbrev namF (th : AVal) : List (Str × AVal) := [("there", th)]

section
variable {B : Base} {H H' : AHeap} {d : Nat} {sc : Scope} {ρ : Loc}

theorem named_spec (T : Facts B) {sv tv : AVal} {m : List (Int × Int)} {x : Int} {Q : AVal → AHeap → Prop} (hi : IsInst H sv (T.fn 28) (namF tv)) (hd : IsDict H tv (zv m)) (ok : MOK m) (q : Q (.int (endOf m x)) H) : CallM B (d + 1) (T.fn 28) "named" [sv, .int x] Q H := by
  refine me_start T 28 2 ["self", "var"] (by decide) (by decide +kernel) (by ktf_call q_bind) (by decide +kernel) rfl ?_
  ktf_call q_z
  refine W1_while (fun n ρ₁ H₁ => ∃ y, ρ₁ = ([("self", sv), ("var", .int y)] : Loc) ∧ H₁ = H ∧ zend m n y = endOf m x ∧ (zget m y = none ∨ (15 - y).toNat ≤ n)) ⟨15, _, .refl _, x, rfl, rfl, rfl, ?_⟩ ?_
  · cases h : zget m x with
    | none => exact .inl rfl
    | some v => have := ok.up x v h; exact .inr (by lia)
  rintro n ρ₁ H₁ ⟨y, rfl, rfl, he, hn⟩
  ktf_call q_mm
  refine V2_inD hd ⟨_, rfl, ?_⟩
  rw [dget_zv]
  cases h : zget m y with
  | none =>
    refine ⟨fun z => (nomatch z), fun _ => ?_⟩
    ktf_call q_mm
    have : endOf m x = y := by
      rw [← he]
      cases n with
      | zero => rfl
      | succ n => unfold zend; rw [h]
    rw [← this]; exact q
  | some v =>
    have hv := ok.up y v h
    have hn2 : (15 - y).toNat ≤ n := hn.resolve_left (by rw [h]; simp)
    refine ⟨fun _ => ?_, fun z => (nomatch z)⟩
    ktf_call q_mm
    refine ⟨.int v, .inl ⟨zv m, y, hd, rfl, by rw [dget_zv, h]; rfl⟩, ?_⟩
    ktf_call q_mm
    cases n with
    | zero => lia
    | succ n =>
      refine ⟨n, _, Nat.lt_succ_self n, .refl _, v, rfl, rfl, ?_, .inr (by lia)⟩
      rw [← he]
      conv => rhs; unfold zend
      rw [h]

theorem lawEnd_spec (T : Facts B) {cv : AVal} {m : List (Int × Int)} {x : Int} {Q : AVal → AHeap → Prop} (hd : IsDict H cv (zv m)) (ok : MOK m) (q : Q (.int (endOf m x)) H) : CallG B (d + 1) "_law_end" [cv, .int x] Q H := by
  refine fn_start T 45 ["chains", "var"] (by decide) (by decide +kernel) (by ktf_call q_bind) (by decide +kernel) rfl ?_
  ktf_call q_z
  refine W1_while (fun n ρ₁ H₁ => ∃ y, ρ₁ = ([("chains", cv), ("var", .int y)] : Loc) ∧ H₁ = H ∧ zend m n y = endOf m x ∧ (zget m y = none ∨ (15 - y).toNat ≤ n)) ⟨15, _, .refl _, x, rfl, rfl, rfl, ?_⟩ ?_
  · cases h : zget m x with
    | none => exact .inl rfl
    | some v => have := ok.up x v h; exact .inr (by lia)
  rintro n ρ₁ H₁ ⟨y, rfl, rfl, he, hn⟩
  ktf_call q_mm
  refine V2_inD hd ⟨_, rfl, ?_⟩
  rw [dget_zv]
  cases h : zget m y with
  | none =>
    refine ⟨fun z => (nomatch z), fun _ => ?_⟩
    ktf_call q_mm
    have : endOf m x = y := by
      rw [← he]
      cases n with
      | zero => rfl
      | succ n => unfold zend; rw [h]
    rw [← this]; exact q
  | some v =>
    have hv := ok.up y v h
    have hn2 : (15 - y).toNat ≤ n := hn.resolve_left (by rw [h]; simp)
    refine ⟨fun _ => ?_, fun z => (nomatch z)⟩
    ktf_call q_mm
    refine ⟨.int v, .inl ⟨zv m, y, hd, rfl, by rw [dget_zv, h]; rfl⟩, ?_⟩
    ktf_call q_mm
    cases n with
    | zero => lia
    | succ n =>
      refine ⟨n, _, Nat.lt_succ_self n, .refl _, v, rfl, rfl, ?_, .inr (by lia)⟩
      rw [← he]
      conv => rhs; unfold zend
      rw [h]

theorem names_new (T : Facts B) {Q : AVal → AHeap → Prop}
    (q : ∀ p dx t, p ≠ dx → t ≠ p → t ≠ dx → H p = none → H dx = none → H t = none → Q (.ref p) (upd (upd (upd H dx (some (.shadow p))) p (some (.inst (T.fn 28) dx (namF (.ref t))))) t (some (.dict [])))) :
    CallG B (d + 2) "Renames" [] Q H := by
  refine cl_start T 28 ["self"] (by decide) (by decide +kernel) (by ktf_call q_bind) (by decide +kernel) rfl fun p dx ne h1 h2 => ?_
  ktf_call q_z
  ktf_call q_s
  refine W_dict0 fun t ht => ?_
  have tp : t ≠ p := fun z => by rw [z, upd_self] at ht; cases ht
  have td : t ≠ dx := fun z => by rw [z, upd_ne _ _ (Ne.symm ne), upd_self] at ht; cases ht
  have h3 : H t = none := by rwa [upd_ne _ _ tp, upd_ne _ _ td] at ht
  ktf_call q_mm
  refine U2_setattr' (fs' := namF (.ref t)) (dx := dx) (C := T.fn 28) (fs := []) (Facts.fd T 28 _ (by decide +kernel)) (by rw [upd_ne _ _ (Ne.symm tp), upd_self]) (by decide) (by ktf_call q_lsetk) ?_
  rw [upd2_comm tp, upd_upd]
  ktf_call q_mm
  exact ⟨rfl, q p dx t ne tp td h1 h2 h3⟩

theorem namesPut_spec (T : Facts B) {sv : AVal} {t : Addr} {m : List (Int × Int)} {x y : Int} {Q : AVal → AHeap → Prop} (hi : IsInst H sv (T.fn 28) (namF (.ref t))) (hd : H t = some (.dict (zv m))) (hz : m.length ≤ 1000) (hxy : x ≠ y) (q : Q .none (upd H t (some (.dict (zv (zset m x y)))))) : CallM B (d + 1) (T.fn 28) "put" [sv, .int x, .int y] Q H := by
  refine me_start T 28 1 ["self", "var", "other"] (by decide) (by decide +kernel) (by ktf_call q_bind) (by decide +kernel) rfl ?_
  ktf_call q_z
  ktf_call q_mm
  refine ⟨fun _ => ?_, fun hc => absurd hc (by simp [hxy])⟩
  ktf_call q_mm
  refine U3_setD hd (by simp [zv]; lia) ?_
  rw [dset_zv]
  ktf_call q_mm
  exact q

noncomputable def renOp (m : List (Int × Int)) (o : OpR) : OpR := { o with args := o.args.map (endOf m) }
noncomputable def renLast (m : List (Int × Int)) (l : LastR) : LastR := { l with args := l.args.map (endOf m), fun_ := endOf m l.fun_, var := endOf m l.var }
noncomputable def renRow (m : List (Int × Int)) (r : RowR) : RowR := { r with ops := r.ops.map (renOp m), last := renLast m r.last }

theorem turnOp_spec (T : Facts B) {sv tv : AVal} {m : List (Int × Int)} {a dx : Addr} {o : OpR} {Q : AVal → AHeap → Prop} (hi : IsInst H sv (T.fn 28) (namF tv)) (hd : IsDict H tv (zv m)) (ok : MOK m) (ha : H a = some (.inst (T.fn 8) dx (opF o (opDat o)))) (hz : o.args.length ≤ 100)
    (q : Q .none (upd H a (some (.inst (T.fn 8) dx (opF (renOp m o) (opDat (renOp m o))))))) : CallM B (d + 2) (T.fn 28) "turn_op" [sv, .ref a] Q H := by
  refine me_start T 28 3 ["self", "op"] (by decide) (by decide +kernel) (by ktf_call q_bind) (by decide +kernel) rfl ?_
  ktf_call q_z
  ktf_call q_s
  refine W_comp1 (fun y => [("self", sv), ("var", y)]) (by decide +kernel) (by decide +kernel) (by intro _ _; rfl) ?_
  have ia : IsInst H (.ref a) (T.fn 8) (opF o (opDat o)) := .inr ⟨a, dx, rfl, ha⟩
  ktf_call q_mm
  refine Comp1.same _ (intsL (o.args.map (endOf m))) [("self", sv)] (.inl rfl) (by simp [intsL]) (by rw [intsL_len, List.length_map]; lia) (by ktf_call q_sub) (by ktf_call q_free) (fun y => by ktf_call q_lsetk) (fun y => by ktf_call q_sub) (fun j y z hy hz => ?_) ?_
  · obtain ⟨x, hx, rfl⟩ := int_at hy
    have : z = .int (endOf m x) := by
      unfold intsL at hz
      rw [List.getElem?_map, List.getElem?_map, hx] at hz
      simpa using hz.symm
    subst this
    ktf_call q_mm
    refine ⟨T.fn 28, _, hi, by rfl, Facts.mt T 28 _ (by decide +kernel), ?_⟩
    ktf_call q_mm
    exact named_spec (d := d) T hi hd ok ⟨rfl, rfl⟩
  ktf_call q_mm
  refine U2_setattr' (fs' := opF (renOp m o) (opDat o)) (dx := dx) (C := T.fn 8) (fs := opF o (opDat o)) (Facts.fd T 8 _ (by decide +kernel)) ha (by simp) (by rfl) ?_
  ktf_call q_mm
  exact q

theorem renFun {m : List (Int × Int)} (ok : MOK m) (x : Int) : (if x ≥ 0 then endOf m x else x) = endOf m x := by
  split
  · rfl
  · rename_i h; exact (endOf_neg ok h).symm
end


section
variable {B : Base} {H H' : AHeap} {d : Nat} {sc : Scope} {ρ : Loc}

theorem W1_mono {st : Stmt} {Q Q' : Fl → Loc → AHeap → Prop} (h : W1 B d sc ρ st Q H) (k : ∀ fl ρ' H', Q fl ρ' H' → Q' fl ρ' H') : W1 B d sc ρ st Q' H := fun A env X s R E S L =>
  monoOk (h A env X s R E S L) fun f s' ⟨fl, ρ', H', rf, S', L', t, q⟩ => ⟨fl, ρ', H', rf, S', L', t, k _ _ _ q⟩
/-- a statement that ends with the same names -/
theorem W1_plain {st : Stmt} {Q : Fl → Loc → AHeap → Prop} (H' : AHeap) (h : W1 B d sc ρ st (fun fl ρ' H'' => fl = .next ∧ ρ' = ρ ∧ H'' = H') H) (q : Q .next ρ H') : W1 B d sc ρ st Q H :=
  W1_mono h fun fl ρ' H'' ⟨a, b, c⟩ => by rw [a, b, c]; exact q

theorem turnLast_spec (T : Facts B) {sv tv : AVal} {m : List (Int × Int)} {a dx : Addr} {l : LastR} {Q : AVal → AHeap → Prop} (hi : ∀ fs, IsInst (upd H a (some (.inst (T.fn 12) dx fs))) sv (T.fn 28) (namF tv)) (hd : ∀ fs, IsDict (upd H a (some (.inst (T.fn 12) dx fs))) tv (zv m)) (ok : MOK m) (ha : H a = some (.inst (T.fn 12) dx (lastF l))) (hz : l.args.length ≤ 100)
    (q : Q .none (upd H a (some (.inst (T.fn 12) dx (lastF (renLast m l)))))) : CallM B (d + 2) (T.fn 28) "turn_last" [sv, .ref a] Q H := by
  refine me_start T 28 4 ["self", "last"] (by decide) (by decide +kernel) (by ktf_call q_bind) (by decide +kernel) rfl ?_
  have e0 : upd H a (some (.inst (T.fn 12) dx (lastF l))) = H := upd_id _ _ _ ha
  have hi0 := hi (lastF l)
  have hd0 := hd (lastF l)
  rw [e0] at hi0 hd0
  have st : ∀ fs, upd H a (some (.inst (T.fn 12) dx fs)) a = some (.inst (T.fn 12) dx fs) := fun fs => upd_self ..
  have il : ∀ l', IsInst (upd H a (some (.inst (T.fn 12) dx (lastF l')))) (.ref a) (T.fn 12) (lastF l') := fun l' => .inr ⟨a, dx, rfl, st _⟩
  ktf_call q_z
  ktf_call q_s
  refine W_comp1 (fun y => [("self", sv), ("var", y)]) (by decide +kernel) (by decide +kernel) (by intro _ _; rfl) ?_
  have ia : IsInst H (.ref a) (T.fn 12) (lastF l) := .inr ⟨a, dx, rfl, ha⟩
  ktf_call q_mm
  refine Comp1.same _ (intsL (l.args.map (endOf m))) [("self", sv)] (.inl rfl) (by simp [intsL]) (by rw [intsL_len, List.length_map]; lia) (by ktf_call q_sub) (by ktf_call q_free) (fun y => by ktf_call q_lsetk) (fun y => by ktf_call q_sub) (fun j y z hy hz => ?_) ?_
  · obtain ⟨x, hx, rfl⟩ := int_at hy
    have : z = .int (endOf m x) := by
      unfold intsL at hz
      rw [List.getElem?_map, List.getElem?_map, hx] at hz
      simpa using hz.symm
    subst this
    ktf_call q_mm
    refine ⟨T.fn 28, _, hi0, by rfl, Facts.mt T 28 _ (by decide +kernel), ?_⟩
    ktf_call q_mm
    exact named_spec (d := d) T hi0 hd0 ok ⟨rfl, rfl⟩
  ktf_call q_mm
  refine U2_setattr' (fs' := lastF { l with args := l.args.map (endOf m) }) (dx := dx) (C := T.fn 12) (fs := lastF l) (Facts.fd T 12 _ (by decide +kernel)) ha (by simp) (by rfl) ?_
  show WS B _ _ _ _ _ _
  refine WS_cons ?_
  obtain ⟨l1, hl1⟩ : ∃ l1 : LastR, l1 = { l with args := l.args.map (endOf m) } := ⟨_, rfl⟩
  rw [← hl1]
  have step : ∀ (l1 : LastR), upd (upd H a (some (.inst (T.fn 12) dx (lastF l1)))) a (some (.inst (T.fn 12) dx (lastF { l1 with fun_ := endOf m l1.fun_ }))) = upd H a (some (.inst (T.fn 12) dx (lastF { l1 with fun_ := endOf m l1.fun_ }))) := fun l1 => upd_upd ..
  refine W1_plain (upd H a (some (.inst (T.fn 12) dx (lastF { l1 with fun_ := endOf m l1.fun_ })))) ?_ ?_
  · have i1 := il l1
    ktf_call q_mm
    refine ⟨fun hc => ?_, fun hc => ?_⟩
    · ktf_call q_mm
      refine ⟨T.fn 28, _, hi _, by rfl, Facts.mt T 28 _ (by decide +kernel), ?_⟩
      ktf_call q_mm
      refine named_spec (d := d) T (hi _) (hd _) ok ?_
      ktf_call q_mm
      exact ⟨rfl, rfl, rfl⟩
    · ktf_call q_mm
      refine ⟨rfl, rfl, ?_⟩
      rw [endOf_neg ok (of_decide_eq_false hc)]
  obtain ⟨l2, hl2⟩ : ∃ l2 : LastR, l2 = { l1 with fun_ := endOf m l1.fun_ } := ⟨_, rfl⟩
  rw [← hl2]
  show WS B _ _ _ _ _ _
  refine WS_cons ?_
  refine W1_plain (upd H a (some (.inst (T.fn 12) dx (lastF { l2 with var := endOf m l2.var })))) ?_ ?_
  · have i1 := il l2
    ktf_call q_mm
    refine ⟨fun hc => ?_, fun hc => ?_⟩
    · ktf_call q_mm
      refine ⟨T.fn 28, _, hi _, by rfl, Facts.mt T 28 _ (by decide +kernel), ?_⟩
      ktf_call q_mm
      refine named_spec (d := d) T (hi _) (hd _) ok ?_
      ktf_call q_mm
      exact ⟨rfl, rfl, rfl⟩
    · ktf_call q_mm
      refine ⟨rfl, rfl, ?_⟩
      rw [endOf_neg ok (of_decide_eq_false hc)]
  ktf_call q_mm
  have e : { l2 with var := endOf m l2.var } = renLast m l := by rw [hl2, hl1]; rfl
  rw [e]; exact q

noncomputable def mixR (f : RowR → RowR) (rs : List (Int × RowR)) (i : Nat) : List (Int × RowR) := (rs.take i).map (fun p => (p.1, f p.2)) ++ rs.drop i
theorem mixR_at {f : RowR → RowR} {rs : List (Int × RowR)} {i : Nat} {k : Int} {r : RowR} (h : rs[i]? = some (k, r)) : (mixR f rs i)[i]? = some (k, r) := by
  have hi : i < rs.length := (List.getElem?_eq_some_iff.mp h).1
  unfold mixR
  rw [List.getElem?_append_right (by simp; lia)]
  simp only [List.length_map, List.length_take, List.getElem?_drop]
  rw [show i + (i - min i rs.length) = i by lia]; exact h
theorem mixR_set {f : RowR → RowR} {rs : List (Int × RowR)} {i : Nat} {k : Int} {r : RowR} (h : rs[i]? = some (k, r)) : (mixR f rs i).set i (k, f r) = mixR f rs (i + 1) := by
  have hi : i < rs.length := (List.getElem?_eq_some_iff.mp h).1
  unfold mixR
  rw [List.set_append_right _ _ (by simp; lia)]
  have e : i - ((rs.take i).map fun p => (p.1, f p.2)).length = 0 := by simp; lia
  rw [e, List.drop_eq_getElem_cons hi, take_snoc h, List.map_append, List.append_assoc]
  rfl
theorem mixR_zero (f : RowR → RowR) (rs : List (Int × RowR)) : mixR f rs 0 = rs := by simp [mixR]
theorem mixR_all (f : RowR → RowR) (rs : List (Int × RowR)) : mixR f rs rs.length = rs.map fun p => (p.1, f p.2) := by simp [mixR]
theorem mixR_keys (f : RowR → RowR) (rs : List (Int × RowR)) (i : Nat) : (mixR f rs i).map (·.1) = rs.map (·.1) := by
  unfold mixR
  rw [List.map_append, List.map_map]
  have : ((fun x : Int × RowR => x.1) ∘ fun p : Int × RowR => (p.1, f p.2)) = fun p => p.1 := rfl
  rw [this, ← List.map_append, List.take_append_drop]
noncomputable def mixO (f : OpR → OpR) (os : List OpR) (j : Nat) : List OpR := (os.take j).map f ++ os.drop j
theorem mixO_at {f : OpR → OpR} {os : List OpR} {j : Nat} {o : OpR} (h : os[j]? = some o) : (mixO f os j)[j]? = some o := by
  have hi : j < os.length := (List.getElem?_eq_some_iff.mp h).1
  unfold mixO
  rw [List.getElem?_append_right (by simp; lia)]
  simp only [List.length_map, List.length_take, List.getElem?_drop]
  rw [show j + (j - min j os.length) = j by lia]; exact h
theorem mixO_set {f : OpR → OpR} {os : List OpR} {j : Nat} {o : OpR} (h : os[j]? = some o) : (mixO f os j).set j (f o) = mixO f os (j + 1) := by
  have hi : j < os.length := (List.getElem?_eq_some_iff.mp h).1
  unfold mixO
  rw [List.set_append_right _ _ (by simp; lia)]
  have e : j - ((os.take j).map f).length = 0 := by simp; lia
  rw [e, List.drop_eq_getElem_cons hi, take_snoc h, List.map_append]
  have h2 : os[j] = o := by have := List.getElem?_eq_some_iff.mp h; exact this.2
  simp [h2]
theorem mixO_zero (f : OpR → OpR) (os : List OpR) : mixO f os 0 = os := by simp [mixO]
theorem mixO_all (f : OpR → OpR) (os : List OpR) : mixO f os os.length = os.map f := by simp [mixO]
theorem mixO_len (f : OpR → OpR) (os : List OpR) (j : Nat) : (mixO f os j).length = os.length := by unfold mixO; simp; lia
end


section
variable {B : Base} {H H' : AHeap} {d : Nat} {sc : Scope} {ρ : Loc}

theorem endOf_nil_fun : endOf [] = id := by funext x; exact endOf_nil x
theorem renRow_nil (r : RowR) : renRow [] r = r := by
  unfold renRow renLast renOp
  rw [endOf_nil_fun]
  obtain ⟨a, b, c, d, e, ops, ⟨f, g, args, i, j, k⟩⟩ := r
  simp
theorem refsN_at {n j : Nat} {oa : Nat → Addr} {y : AVal} (h : (refsN n oa)[j]? = some y) : j < n ∧ y = .ref (oa j) := by
  have hj : j < n := by have := (List.getElem?_eq_some_iff.mp h).1; simpa using this
  refine ⟨hj, ?_⟩
  rw [List.getElem?_map, List.getElem?_range hj] at h
  simpa using h.symm

theorem pmBlock (T : Facts B) {N : Addr → Prop} {p dx t : Addr} {kvs : List (Int × AVal)} {rs : List (Int × RowR)} {ba : Nat → Addr} {oa : Nat → Nat → Addr} {la : Nat → Addr} (P : PMs T N H p dx t kvs rs ba oa la) (nd : (rs.map (·.1)).Nodup) {i : Nat} {k : Int} {r : RowR} {Q : AVal → AHeap → Prop} (hr : rs[i]? = some (k, r)) (q : Q (.ref (ba i)) H) : CallM B (d + 1) (T.fn 18) "block" [.ref p, .int k] Q H := by
  have keys : kvs.map (·.1) = rs.map (·.1) := by
    refine List.ext_getElem? fun x => ?_
    rw [List.getElem?_map, List.getElem?_map]
    by_cases hx : x < rs.length
    · have e : rs[x]? = some rs[x] := List.getElem?_eq_getElem hx
      rw [P.at_ x _ _ e, e]; rfl
    · have e1 : rs[x]? = none := by rw [List.getElem?_eq_none_iff]; lia
      have e2 : kvs[x]? = none := by rw [List.getElem?_eq_none_iff, P.len]; lia
      rw [e1, e2]; rfl
  exact block_spec T (.inr ⟨p, dx, rfl, P.hp⟩) (.inr ⟨t, rfl, P.ht⟩) (dget_of (by rw [keys]; exact nd) (P.at_ i k r hr)) q

theorem turn_spec (T : Facts B) {N : Addr → Prop} {p dx t : Addr} {kvs : List (Int × AVal)} {rs : List (Int × RowR)} {ba : Nat → Addr} {oa : Nat → Nat → Addr} {la : Nat → Addr} {m : List (Int × Int)} {Q : AVal → AHeap → Prop} (P : PMs T N H p dx t kvs rs ba oa la) (ok : MOK m) (okr : RowsOK rs)
    (q : ∀ H', (∀ b, ¬ N b → H' b = H b) → PMs T N H' p dx t kvs (rs.map fun p => (p.1, renRow m p.2)) ba oa la → Q .none H') : CallM B (d + 3) (T.fn 28) "turn" [.obj (T.fn 28) (namF (.dct (zv m))), .ref p] Q H := by
  refine me_start T 28 5 ["self", "program"] (by decide) (by decide +kernel) (by ktf_call q_bind) (by decide +kernel) rfl ?_
  have ml := ok.len
  have nd := asc_nodup okr.asc
  have hz := okr.len
  ktf_call q_z
  ktf_call q_mm
  refine ⟨_, _, _, .inl rfl, Facts.fd T 28 _ (by decide +kernel), lget_hd, ?_⟩
  refine ⟨m.length, by lia, .inr ⟨zv m, .inl rfl, by simp [zv]⟩, ?_⟩
  ktf_call q_mm
  refine ⟨fun hc => ?_, fun hc => ?_⟩
  · have hm : m = [] := by simpa using hc
    subst hm
    refine WS_cons (W1_ret0 ?_)
    ktf_call q_mm
    refine q H (fun _ _ => rfl) ?_
    have e : (rs.map fun p => (p.1, renRow [] p.2)) = rs := by
      conv => rhs; rw [← List.map_id rs]
      exact List.map_congr_left fun p _ => by rw [renRow_nil]; rfl
    rw [e]; exact P
  · ktf_call q_mm
    refine W1_forF (fun i H' => (∀ b, ¬ N b → H' b = H b) ∧ PMs T N H' p dx t kvs (mixR (renRow m) rs i) ba oa la) (fun y => [("self", .obj (T.fn 28) (namF (.dct (zv m)))), ("program", .ref p), ("label", y)]) (by decide +kernel) (by intro y; ktf_call q_lsetk) (by intro _ _; rfl) ?_
    have ip : IsInst H (.ref p) (T.fn 18) [("table", .ref t), ("entry", .int 10)] := .inr ⟨p, dx, rfl, P.hp⟩
    ktf_call q_mm
    refine ⟨T.fn 18, _, ip, by rfl, Facts.mt T 18 _ (by decide +kernel), ?_⟩
    ktf_call q_mm
    refine prgLabels_spec (d := d + 1) T P.is okr ?_
    refine ⟨_, .inl rfl, ⟨fun _ _ => rfl, by rw [mixR_zero]; exact P⟩, fun i y H₂ hy ⟨hN, P2⟩ => ?_, fun H₂ ⟨hN, P2⟩ => ?_⟩
    · obtain ⟨k, r, rfl, hr⟩ := key_at hy
      have hm := List.mem_of_getElem? hr
      have rok := okr.row _ hm
      have hr2 := mixR_at (f := renRow m) hr
      have nd2 : ((mixR (renRow m) rs i).map (·.1)).Nodup := by rw [mixR_keys]; exact nd
      have il : i < (mixR (renRow m) rs i).length := (List.getElem?_eq_some_iff.mp hr2).1
      refine WS_cons ?_
      have ip : IsInst H₂ (.ref p) (T.fn 18) [("table", .ref t), ("entry", .int 10)] := .inr ⟨p, dx, rfl, P2.hp⟩
      ktf_call q_mm
      refine ⟨T.fn 18, _, ip, by rfl, Facts.mt T 18 _ (by decide +kernel), ?_⟩
      ktf_call q_mm
      refine pmBlock (d := d + 1) T P2 nd2 hr2 ?_
      have K := P2.blk i k r hr2
      obtain ⟨dxb, hB⟩ := K.blk
      have ib : IsInst H₂ (.ref (ba i)) (T.fn 17) (blkF k r (.lst (refsN r.ops.length (oa i))) (.ref (la i))) := .inr ⟨ba i, dxb, rfl, hB⟩
      ktf_call q_mm
      refine W1_forF (fun j H' => (∀ b, ¬ N b → H' b = H b) ∧ PMs T N H' p dx t kvs ((mixR (renRow m) rs i).set i (k, { r with ops := mixO (renOp m) r.ops j })) ba oa la) (fun y => [("self", .obj (T.fn 28) (namF (.dct (zv m)))), ("program", .ref p), ("label", .int k), ("block", .ref (ba i)), ("op", y)]) (by decide +kernel) (by intro y; ktf_call q_lsetk) (by intro _ _; rfl) ?_
      ktf_call q_mm
      refine ⟨_, .inl rfl, ⟨hN, ?_⟩, fun j y H₃ hy ⟨hN3, P3⟩ => ?_, fun H₃ ⟨hN3, P3⟩ => ?_⟩
      · have e : (mixR (renRow m) rs i).set i (k, { r with ops := mixO (renOp m) r.ops 0 }) = mixR (renRow m) rs i := by
          rw [mixO_zero]
          obtain ⟨h1, h2⟩ := List.getElem?_eq_some_iff.mp hr2
          have := List.set_getElem_self (as := mixR (renRow m) rs i) h1
          rw [h2] at this; exact this
        rw [e]; exact P2
      · obtain ⟨hj, rfl⟩ := refsN_at hy
        have hoj : r.ops[j]? = some r.ops[j] := List.getElem?_eq_getElem hj
        have hr3 : ((mixR (renRow m) rs i).set i (k, { r with ops := mixO (renOp m) r.ops j }))[i]? = some (k, { r with ops := mixO (renOp m) r.ops j }) := List.getElem?_set_self il
        have ho3 := mixO_at (f := renOp m) hoj
        have K3 := P3.blk i _ _ hr3
        obtain ⟨dxo, hO⟩ := K3.ops j _ ho3
        have nO : N (oa i j) := K3.no j (by show j < (mixO _ _ _).length; rw [mixO_len]; exact hj)
        refine WS_cons ?_
        ktf_call q_mm
        refine ⟨T.fn 28, _, .inl rfl, by rfl, Facts.mt T 28 _ (by decide +kernel), ?_⟩
        ktf_call q_mm
        refine turnOp_spec (d := d) T (.inl rfl) (.inl rfl) ok hO (rok.op _ (List.mem_of_getElem? hoj)).args ⟨rfl, ?_⟩
        ktf_call q_mm
        refine ⟨fun b hb => ?_, ?_⟩
        · rw [upd_ne _ _ fun (z : b = oa i j) => hb (by rw [z]; exact nO)]; exact hN3 b hb
        · have P4 := P3.setOp (o' := renOp m r.ops[j]) hr3 ho3 hO
          rw [List.set_set] at P4
          have e : (mixO (renOp m) r.ops j).set j (renOp m r.ops[j]) = mixO (renOp m) r.ops (j + 1) := mixO_set hoj
          simp only [e] at P4
          exact P4
      · have e1 : (refsN r.ops.length (oa i)).length = r.ops.length := by simp
        rw [e1, mixO_all] at P3
        have hr3 : ((mixR (renRow m) rs i).set i (k, { r with ops := r.ops.map (renOp m) }))[i]? = some (k, { r with ops := r.ops.map (renOp m) }) := List.getElem?_set_self il
        have K3 := P3.blk i _ _ hr3
        obtain ⟨dxb3, hB3⟩ := K3.blk
        obtain ⟨dxl, hL⟩ := K3.last
        have ib3 : IsInst H₃ (.ref (ba i)) (T.fn 17) (blkF k { r with ops := r.ops.map (renOp m) } (.lst (refsN (r.ops.map (renOp m)).length (oa i))) (.ref (la i))) := .inr ⟨ba i, dxb3, rfl, hB3⟩
        ktf_call q_mm
        refine ⟨T.fn 28, _, .inl rfl, by rfl, Facts.mt T 28 _ (by decide +kernel), ?_⟩
        ktf_call q_mm
        refine turnLast_spec (d := d) T (fun _ => .inl rfl) (fun _ => .inl rfl) ok hL rok.last.args ⟨rfl, ?_⟩
        ktf_call q_mm
        refine ⟨fun b hb => ?_, ?_⟩
        · rw [upd_ne _ _ fun (z : b = la i) => hb (by rw [z]; exact K3.nl)]; exact hN3 b hb
        · have P4 := P3.setLast (l' := renLast m r.last) hr3 hL
          rw [List.set_set] at P4
          have e : (mixR (renRow m) rs i).set i (k, renRow m r) = mixR (renRow m) rs (i + 1) := mixR_set hr
          rw [← e]; exact P4
    · have e1 : (intsL (rs.map (·.1))).length = rs.length := by simp [intsL]
      rw [e1, mixR_all] at P2
      ktf_call q_mm
      exact q H₂ hN P2
end


section
variable {B : Base} {H H' : AHeap} {d : Nat} {sc : Scope} {ρ : Loc}

noncomputable def renAll (m : List (Int × Int)) (rs : List (Int × RowR)) : List (Int × RowR) := rs.map fun p => (p.1, renRow m p.2)

theorem renamed_spec (T : Facts B) {rs : List (Int × RowR)} {m : List (Int × Int)} {Q : AVal → AHeap → Prop} (ok : RowsOK rs) (mk : MOK m) (q : ∀ a, H a = none → Q (.ref a) (upd H a (some (.dict ((renAll m rs).map fun p => (p.1, rowT p.2)))))) : CallG B (d + 2) "_law_renamed" [rowsT rs, .dct (zv m)] Q H := by
  refine fn_start T 44 ["rows", "chains"] (by decide) (by decide +kernel) (by ktf_call q_bind) (by decide +kernel) rfl ?_
  have hz := ok.len
  ktf_call q_z
  ktf_call q_s
  refine W_dict0 fun a h1 => ?_
  ktf_call q_mm
  refine W1_forF (fun i H' => H' = upd H a (some (.dict ((rs.take i).map fun p => (p.1, rowT (renRow m p.2)))))) (fun y => [("rows", rowsT rs), ("chains", .dct (zv m)), ("found", .ref a), ("label", y)]) (by decide +kernel) (by intro y; ktf_call q_lsetk) (by intro _ _; rfl) ?_
  ktf_call q_mm
  refine ⟨_, .inl rfl, by simp; lia, ?_⟩
  rw [rows_keys, sortZ_id (asc_le ok.asc)]
  refine ⟨_, .inl rfl, rfl, fun i y H₂ hy e => ?_, fun H₂ e => ?_⟩
  · subst e
    obtain ⟨k, r, rfl, hr⟩ := key_at hy
    have hm := List.mem_of_getElem? hr
    have rok := ok.row _ hm
    have hops := rok.ops
    dsimp only at hops
    refine WS_cons ?_
    ktf_call q_mm
    refine ⟨_, .inl ⟨_, k, .inl rfl, rfl, rows_dget (f := fun _ r => rowT r) ok hr⟩, ?_⟩
    ktf_call q_mm
    refine W1_comp1 (fun y => [("chains", .dct (zv m)), ("op", y)]) (fun w => [("rows", rowsT rs), ("chains", .dct (zv m)), ("found", .ref a), ("label", .int k), ("sort", .str r.sort), ("params", .lst (intsL r.params)), ("rest", .int r.rest), ("var", .int r.var), ("parent", .int r.parent), ("ops", w), ("last", lastT r.last)]) (by intro w; ktf_call q_lsetk) (by decide +kernel) (by decide +kernel) (by decide +kernel) (by intro _ _; rfl) ?_
    ktf_call q_mm
    refine Comp1.same _ (r.ops.map fun o => opT (renOp m o)) [("chains", .dct (zv m))] (.inl rfl) (by simp) (by simp; lia) (by ktf_call q_sub) (by ktf_call q_free) (fun y => by ktf_call q_lsetk) (fun y => by ktf_call q_sub) (fun j y z hy hz => ?_) ?_
    · obtain ⟨o, ho, rfl⟩ := ops_at hy
      have hz2 : z = opT (renOp m o) := by rw [List.getElem?_map, ho] at hz; simpa using hz.symm
      subst hz2
      have oko := rok.op o (List.mem_of_getElem? ho)
      have hargs := oko.args
      ktf_call q_mm
      refine W_uptoT (k := 3) ?_
      ktf_call q_mm
      refine ⟨by simp, by simp, ?_⟩
      ktf_call q_mm
      refine W_comp1 (fun y => [("chains", .dct (zv m)), ("own", y)]) (by decide +kernel) (by decide +kernel) (by intro _ _; rfl) ?_
      ktf_call q_mm
      refine Comp1.same _ (intsL (o.args.map (endOf m))) [("chains", .dct (zv m))] (.inl rfl) (by simp [intsL]) (by rw [intsL_len, List.length_map]; lia) (by ktf_call q_sub) (by ktf_call q_free) (fun y => by ktf_call q_lsetk) (fun y => by ktf_call q_sub) (fun j y z hy hz => ?_) ?_
      · obtain ⟨x, hx, rfl⟩ := int_at hy
        have : z = .int (endOf m x) := by
          unfold intsL at hz
          rw [List.getElem?_map, List.getElem?_map, hx] at hz
          simpa using hz.symm
        subst this
        ktf_call q_mm
        exact lawEnd_spec (d := d) T (.inl rfl) mk ⟨rfl, rfl⟩
      ktf_call q_mm
      refine ⟨by simp, ?_⟩
      refine V2_addT (by simp) (by simp) ?_ (by simp)
      ktf_call q_mm
      refine W_fromT (k := 4) ?_ (by decide)
      ktf_call q_mm
      refine ⟨by simp, by simp, ?_⟩
      refine V2_addT (by simp) (by simp) ?_ (by simp)
      exact ⟨rfl, rfl⟩
    ktf_call q_mm
    refine lawEnd_spec (d := d) T (.inl rfl) mk ?_
    have hlz := rok.last.args
    dsimp only at hlz
    ktf_call q_mm
    refine W_comp1 (fun y => [("chains", .dct (zv m)), ("own", y)]) (by decide +kernel) (by decide +kernel) (by intro _ _; rfl) ?_
    ktf_call q_mm
    refine Comp1.same _ (intsL (r.last.args.map (endOf m))) [("chains", .dct (zv m))] (.inl rfl) (by simp [intsL]) (by rw [intsL_len, List.length_map]; lia) (by ktf_call q_sub) (by ktf_call q_free) (fun y => by ktf_call q_lsetk) (fun y => by ktf_call q_sub) (fun j y z hy hz => ?_) ?_
    · obtain ⟨x, hx, rfl⟩ := int_at hy
      have : z = .int (endOf m x) := by
        unfold intsL at hz
        rw [List.getElem?_map, List.getElem?_map, hx] at hz
        simpa using hz.symm
      subst this
      ktf_call q_mm
      exact lawEnd_spec (d := d) T (.inl rfl) mk ⟨rfl, rfl⟩
    ktf_call q_mm
    refine lawEnd_spec (d := d) T (.inl rfl) mk ?_
    ktf_call q_mm
    refine ⟨by simp, ?_⟩
    ktf_call q_mm
    refine ⟨by simp, ?_⟩
    ktf_call q_mm
    refine U3_setD (upd_self ..) (by simp; lia) ?_
    ktf_call q_mm
    have hn : k ∉ ((rs.take i).map fun p => (p.1, rowT (renRow m p.2))).map (·.1) := by
      have := asc_take (l := rs.map (·.1)) (asc_nodup ok.asc) (i := i) (k := k) (by rw [List.getElem?_map, hr]; rfl)
      rw [List.map_map]
      rw [← List.map_take] at this
      exact this
    have er : AVal.tup [.str r.sort, .lst (intsL r.params), .int r.rest, .int r.var, .int r.parent, .lst (r.ops.map fun o => opT (renOp m o)), .tup [.str r.last.word, .int (endOf m r.last.fun_), .lst (intsL (r.last.args.map (endOf m))), .int r.last.to, .int r.last.other, .int (endOf m r.last.var)]] = rowT (renRow m r) := by
      show _ = AVal.tup [.str r.sort, .lst (intsL r.params), .int r.rest, .int r.var, .int r.parent, .lst ((r.ops.map (renOp m)).map opT), .tup [.str r.last.word, .int (endOf m r.last.fun_), .lst (intsL (r.last.args.map (endOf m))), .int r.last.to, .int r.last.other, .int (endOf m r.last.var)]]
      rw [List.map_map]; rfl
    rw [upd_upd, dset_new hn, take_snoc hr, List.map_append, er]
    rfl
  · subst e
    ktf_call q_mm
    have e : (intsL (rs.map (·.1))).length = rs.length := by simp [intsL]
    rw [e, List.take_length]
    have := q a h1
    unfold renAll at this
    rw [List.map_map] at this
    exact this

/-! ### children that move -/

noncomputable def movRow (one other : Int) (r : RowR) : RowR := if r.parent = one then { r with parent := other } else r

noncomputable def cget : List (Int × List Int) → Int → List Int
  | [], _ => []
  | (j, xs) :: r, k => if k = j then xs else cget r k
theorem cget_kv : ∀ (m : List (Int × List Int)) (k : Int), (dget (kv m) k).getD (.lst []) = .lst (intsL (cget m k))
  | [], k => rfl
  | (j, xs) :: r, k => by
    show (if k = j then some (AVal.lst (intsL xs)) else dget (kv r) k).getD (.lst []) = _
    unfold cget
    split
    · rfl
    · exact cget_kv r k
theorem cget_cadd : ∀ (m : List (Int × List Int)) (k x j : Int), cget (cadd m k x) j = if j = k then cget m k ++ [x] else cget m j
  | [], k, x, j => by simp [cadd, cget]
  | (i, xs) :: r, k, x, j => by
    by_cases h : k = i
    · subst h
      simp only [cadd, if_true, cget]
      split <;> rfl
    · simp only [cadd, if_neg h, cget, cget_cadd r k x j]
      by_cases hj : j = i
      · subst hj
        rw [if_pos rfl, if_neg (Ne.symm h), if_pos rfl]
      · rw [if_neg hj, if_neg hj]
noncomputable def kidsAt (rs : List (Int × RowR)) (one : Int) : List Int := (rs.filter fun p => decide (p.2.parent = one)).map (·.1)
theorem cget_kidsOf (rs : List (Int × RowR)) {one : Int} (h1 : one ≥ 0) : cget (kidsOf rs) one = kidsAt rs one := by
  have key : ∀ (rs : List (Int × RowR)) (m : List (Int × List Int)), cget (rs.foldl (fun m p => if p.2.parent ≥ 0 then cadd m p.2.parent p.1 else m) m) one = cget m one ++ kidsAt rs one := by
    intro rs
    induction rs with
    | nil => intro m; simp [kidsAt]
    | cons p rs ih =>
      intro m
      rw [List.foldl_cons, ih]
      unfold kidsAt
      rw [List.filter_cons]
      by_cases h : p.2.parent = one
      · rw [if_pos (by lia), cget_cadd, if_pos h.symm]
        simp [h]
      · simp only [h, decide_false, Bool.false_eq_true, if_false]
        split
        · rw [cget_cadd, if_neg (Ne.symm h)]
        · rfl
  exact key rs []
theorem kidsAt_mem {rs : List (Int × RowR)} {one k : Int} : k ∈ kidsAt rs one ↔ ∃ r, (k, r) ∈ rs ∧ r.parent = one := by
  unfold kidsAt
  rw [List.mem_map]
  exact ⟨fun ⟨p, h, e⟩ => by
    obtain ⟨h1, h2⟩ := List.mem_filter.mp h
    exact ⟨p.2, by rw [← e]; exact h1, of_decide_eq_true h2⟩, fun ⟨r, h, e⟩ => ⟨(k, r), List.mem_filter.mpr ⟨h, decide_eq_true e⟩, rfl⟩⟩
theorem kidsAt_nodup {rs : List (Int × RowR)} (nd : (rs.map (·.1)).Nodup) (one : Int) : (kidsAt rs one).Nodup := by
  unfold kidsAt
  exact nd.sublist ((List.filter_sublist).map _)

/-- the rows, the listed ones moved -/
noncomputable def movSet (cs : List Int) (other : Int) (rs : List (Int × RowR)) : List (Int × RowR) := rs.map fun p => if p.1 ∈ cs then (p.1, { p.2 with parent := other }) else p
theorem movSet_nil (other : Int) (rs : List (Int × RowR)) : movSet [] other rs = rs := by
  unfold movSet
  conv => rhs; rw [← List.map_id rs]
  exact List.map_congr_left fun p _ => by simp
theorem movSet_keys (cs : List Int) (other : Int) (rs : List (Int × RowR)) : (movSet cs other rs).map (·.1) = rs.map (·.1) := by
  unfold movSet
  rw [List.map_map]
  refine List.map_congr_left fun p _ => ?_
  show (if p.1 ∈ cs then (p.1, { p.2 with parent := other }) else p).1 = p.1
  split <;> rfl
theorem movSet_step {cs : List Int} {other c : Int} {rs : List (Int × RowR)} (nd : (rs.map (·.1)).Nodup) {i : Nat} {r : RowR} (hr : rs[i]? = some (c, r)) (hc : c ∉ cs) :
    (movSet cs other rs)[i]? = some (c, r) ∧ (movSet cs other rs).set i (c, { r with parent := other }) = movSet (cs ++ [c]) other rs := by
  have h1 : (movSet cs other rs)[i]? = some (c, r) := by
    unfold movSet; rw [List.getElem?_map, hr]; simp [hc]
  refine ⟨h1, List.ext_getElem? fun x => ?_⟩
  by_cases hx : x = i
  · subst hx
    rw [List.getElem?_set_self (List.getElem?_eq_some_iff.mp h1).1]
    unfold movSet; rw [List.getElem?_map, hr]; simp
  · rw [List.getElem?_set_ne (Ne.symm hx)]
    unfold movSet
    rw [List.getElem?_map, List.getElem?_map]
    cases hq : rs[x]? with
    | none => rfl
    | some p =>
      have hp : p.1 ≠ c := fun z => by
        have e1 : (rs.map (·.1))[x]? = some c := by rw [List.getElem?_map, hq, ← z]; rfl
        have e2 : (rs.map (·.1))[i]? = some c := by rw [List.getElem?_map, hr]; rfl
        exact hx ((List.getElem?_inj (List.getElem?_eq_some_iff.mp e1).1 nd).mp (e1.trans e2.symm))
      simp [hp]
theorem movSet_all {rs : List (Int × RowR)} (ok : RowsOK rs) (one other : Int) : movSet (kidsAt rs one) other rs = rs.map fun p => (p.1, movRow one other p.2) := by
  unfold movSet
  refine List.map_congr_left fun p hp => ?_
  unfold movRow
  by_cases h : p.2.parent = one
  · rw [if_pos (kidsAt_mem.mpr ⟨p.2, hp, h⟩), if_pos h]
  · rw [if_neg fun z => by
      obtain ⟨r, h1, h2⟩ := kidsAt_mem.mp z
      have : r = p.2 := key_unique ok h1 hp
      rw [this] at h2; exact h h2, if_neg h]

theorem move_spec (T : Facts B) {N : Addr → Prop} {p dx t : Addr} {kvs : List (Int × AVal)} {rs : List (Int × RowR)} {ba : Nat → Addr} {oa : Nat → Nat → Addr} {la : Nat → Addr} {one other : Int} {Q : AVal → AHeap → Prop} (P : PMs T N H p dx t kvs rs ba oa la) (okr : RowsOK rs) (sm : RowsSm rs) (h1 : one ≥ 0)
    (q : ∀ H', (∀ b, ¬ N b → H' b = H b) → PMs T N H' p dx t kvs (rs.map fun p => (p.1, movRow one other p.2)) ba oa la → Q .none H') : CallG B (d + 3) "move_children" [.ref p, .int one, .int other] Q H := by
  refine fn_start T 26 ["program", "label", "other"] (by decide) (by decide +kernel) (by ktf_call q_bind) (by decide +kernel) rfl ?_
  have nd := asc_nodup okr.asc
  have hz := okr.len
  ktf_call q_z
  refine W1_forF (fun j H' => (∀ b, ¬ N b → H' b = H b) ∧ PMs T N H' p dx t kvs (movSet ((kidsAt rs one).take j) other rs) ba oa la) (fun y => [("program", .ref p), ("label", .int one), ("other", .int other), ("child", y)]) (by decide +kernel) (by intro y; ktf_call q_lsetk) (by intro _ _; rfl) ?_
  ktf_call q_mm
  refine childrenOf_spec (d := d) T P.is okr sm ?_
  refine ⟨_, .inl rfl, ?_⟩
  ktf_call q_mm
  refine W_lst (WL_nil ⟨by simp, _, .inl rfl, ?_⟩)
  rw [cget_kv, cget_kidsOf rs h1]
  refine ⟨_, .inl rfl, ⟨fun _ _ => rfl, by rw [List.take_zero, movSet_nil]; exact P⟩, fun j y H₂ hy ⟨hN, P2⟩ => ?_, fun H₂ ⟨hN, P2⟩ => ?_⟩
  · obtain ⟨c, hc, rfl⟩ := int_at hy
    obtain ⟨r, hm, hpar⟩ := kidsAt_mem.mp (List.mem_of_getElem? hc)
    obtain ⟨i, hi⟩ := List.getElem?_of_mem hm
    have hcn := asc_take (kidsAt_nodup nd one) hc
    obtain ⟨s1, s2⟩ := movSet_step (other := other) nd hi hcn
    have nd2 : ((movSet ((kidsAt rs one).take j) other rs).map (·.1)).Nodup := by rw [movSet_keys]; exact nd
    have ip : IsInst H₂ (.ref p) (T.fn 18) [("table", .ref t), ("entry", .int 10)] := .inr ⟨p, dx, rfl, P2.hp⟩
    have K := P2.blk i c r s1
    obtain ⟨dxb, hB⟩ := K.blk
    refine WS_cons ?_
    ktf_call q_mm
    refine ⟨T.fn 18, _, ip, by rfl, Facts.mt T 18 _ (by decide +kernel), ?_⟩
    ktf_call q_mm
    refine pmBlock (d := d + 1) T P2 nd2 s1 ?_
    refine U2_setattr' (fs' := blkF c { r with parent := other } (.lst (refsN r.ops.length (oa i))) (.ref (la i))) (dx := dxb) (C := T.fn 17) (fs := blkF c r (.lst (refsN r.ops.length (oa i))) (.ref (la i))) (Facts.fd T 17 _ (by decide +kernel)) hB (by simp) (by rfl) ?_
    ktf_call q_mm
    refine ⟨fun b hb => ?_, ?_⟩
    · rw [upd_ne _ _ fun (z : b = ba i) => hb (by rw [z]; exact K.nb)]; exact hN b hb
    · have P4 := P2.setPar (q := other) nd2 s1 hB
      rw [s2, ← take_snoc hc] at P4
      exact P4
  · rw [intsL_len, List.take_length, movSet_all okr] at P2
    ktf_call q_mm
    exact q H₂ hN P2
end


section
variable {B : Base} {H H' : AHeap} {d : Nat} {sc : Scope} {ρ : Loc}

theorem swapped_three {env : Env} {n1 n2 n3 : Str} {p1 p2 p3 tp p' : Pos} {k k' : Nat} {v1 v2 v3 : Expr} (E : EnvOK sc env) (h1 : sc.names.lookup n1 = some .local) (h2 : sc.names.lookup n2 = some .local) (h3 : sc.names.lookup n3 = some .local) (hl : (p2.line == p1.line) = true) (hl3 : (p3.line == p1.line) = true) (hn : [n1, n2, n3].eraseDups.length = 3)
    (s1 : notStar v1 = true) (s2 : notStar v2 = true) (s3 : notStar v3 = true) (f : [v1, v2, v3].all (foldedForSure 8) = false) (c : [v1, v2, v3].all (constantsAlone 8) = false) : swappedStores [.Tuple [.Name n1 p1, .Name n2 p2, .Name n3 p3] k tp] (.Tuple [v1, v2, v3] k' p') env = pure (some [n1, n2, n3]) := by
  have ek : ∀ y, env.kindOf y = sc.names.lookup y := fun y => by unfold Env.kindOf; rw [E.scope]
  have st : ([v1, v2, v3].any fun | .Starred .. => true | _ => false) = false := by
    have : ∀ v : Expr, notStar v = true → (match v with | .Starred .. => true | _ => false) = false := fun v h => by cases v <;> first | rfl | (simp [notStar] at h)
    simp only [List.any_cons, List.any_nil, this v1 s1, this v2 s2, this v3 s3]; rfl
  have e1 : ((env.kindOf n1 == some NameKind.local) && (p1.line == p1.line)) = true := by rw [ek, h1]; simp
  have e2 : ((env.kindOf n2 == some NameKind.local) && (p2.line == p1.line)) = true := by rw [ek, h2, hl]; rfl
  have e3 : ((env.kindOf n3 == some NameKind.local) && (p3.line == p1.line)) = true := by rw [ek, h3, hl3]; rfl
  unfold swappedStores
  dsimp only
  rw [if_neg (by rw [E.fnBlock]; simp)]
  refine (if_neg fun z => absurd (st.symm.trans z) (by decide)).trans ?_
  have l0 : (Option.map (fun (x : Expr) => x.pos.line) [Expr.Name n1 p1, Expr.Name n2 p2, Expr.Name n3 p3].head?).getD 0 = p1.line := rfl
  simp only [l0, List.filterMap_cons, List.filterMap_nil, e1, e2, e3, if_true]
  rw [if_neg (by rw [hn]; simp), if_neg (by rw [f]; simp)]
  simp only [c]
  rfl
theorem W1_swap3 {elts : List Expr} {k : Nat} {tpos pos : Pos} {value : Expr} {n1 n2 n3 : Str} {Q : Fl → Loc → AHeap → Prop} (ρ1 : AVal → Loc) (ρ2 : AVal → AVal → Loc) (ρ3 : AVal → AVal → AVal → Loc) (hw : ∀ env, EnvOK sc env → swappedStores [.Tuple elts k tpos] value env = pure (some [n1, n2, n3]))
    (e1 : ∀ z, lset ρ n3 z = ρ1 z) (e2 : ∀ y z, lset (ρ1 z) n2 y = ρ2 y z) (e3 : ∀ x y z, lset (ρ2 y z) n1 x = ρ3 x y z) (h : W B d sc ρ value (fun v H₁ => ∃ x y z, v = .tup [x, y, z] ∧ Q .next (ρ3 x y z) H₁) H) (hv : [n3, n2, n1].all (isVar sc) = true)
    (hs : ∀ env, swapsWithSole [.Tuple elts k tpos] value pos.line env = pure false := by intro _; rfl) :
    W1 B d sc ρ (.Assign [.Tuple elts k tpos] value pos) Q H :=
  W1_swap hw (W_mono h fun v H₁ ⟨x, y, z, e, q⟩ => ⟨[x, y, z], e, rfl, by
    show Q .next (lset (lset (lset ρ n3 z) n2 y) n1 x) H₁
    rw [e1, e2, e3]; exact q⟩) hv hs

theorem prgV_is (T : Facts B) (rs : List (Int × RowR)) : IsPrg T H (prgV T rs) rs := by
  refine ⟨_, _, .inl rfl, .inl rfl, ?_⟩
  have := All2.map (R := fun (p : Int × AVal) (q : Int × RowR) => p.1 = q.1 ∧ IsBlk T H p.2 q.1 q.2) (f := fun p : Int × RowR => (p.1, blkV T p.1 p.2)) (g := id) (l := rs) fun p _ => ⟨rfl, _, _, .inl rfl, ?_, .inl rfl⟩
  · rwa [List.map_id] at this
  · have := All2.map (R := IsOp T H) (f := opVd T) (g := id) (l := p.2.ops) fun o _ => .inl rfl
    rwa [List.map_id] at this

/-! ### rows renamed, rows moved -/

theorem renAll_keys (m : List (Int × Int)) (rs : List (Int × RowR)) : (renAll m rs).map (·.1) = rs.map (·.1) := by
  unfold renAll; rw [List.map_map]; rfl
theorem renAll_ok {m : List (Int × Int)} {rs : List (Int × RowR)} (ok : RowsOK rs) : RowsOK (renAll m rs) where
  len := by unfold renAll; rw [List.length_map]; exact ok.len
  asc := by rw [renAll_keys]; exact ok.asc
  row p hp := by
    obtain ⟨q, hq, rfl⟩ := List.mem_map.mp hp
    have r := ok.row q hq
    refine ⟨r.params, by show (List.map _ _).length ≤ _; rw [List.length_map]; exact r.ops, fun o ho => ?_, ⟨by show (List.map _ _).length ≤ _; rw [List.length_map]; exact r.last.args⟩⟩
    obtain ⟨o', ho', rfl⟩ := List.mem_map.mp ho
    have k := r.op o' ho'
    exact ⟨by show (List.map _ _).length ≤ _; rw [List.length_map]; exact k.args, k.results, k.labels⟩
theorem renAll_sm {m : List (Int × Int)} {rs : List (Int × RowR)} (sm : RowsSm rs) : RowsSm (renAll m rs) where
  len := by unfold renAll; rw [List.length_map]; exact sm.len
  ops p hp := by obtain ⟨q, hq, rfl⟩ := List.mem_map.mp hp; show (List.map _ _).length ≤ _; rw [List.length_map]; exact sm.ops q hq
  params p hp := by obtain ⟨q, hq, rfl⟩ := List.mem_map.mp hp; exact sm.params q hq
  args p hp o ho := by
    obtain ⟨q, hq, rfl⟩ := List.mem_map.mp hp
    obtain ⟨o', ho', rfl⟩ := List.mem_map.mp ho
    show (List.map _ _).length ≤ _; rw [List.length_map]; exact sm.args q hq o' ho'
  results p hp o ho := by
    obtain ⟨q, hq, rfl⟩ := List.mem_map.mp hp
    obtain ⟨o', ho', rfl⟩ := List.mem_map.mp ho
    exact sm.results q hq o' ho'
  labels p hp o ho := by
    obtain ⟨q, hq, rfl⟩ := List.mem_map.mp hp
    obtain ⟨o', ho', rfl⟩ := List.mem_map.mp ho
    exact sm.labels q hq o' ho'
  last p hp := by obtain ⟨q, hq, rfl⟩ := List.mem_map.mp hp; show (List.map _ _).length ≤ _; rw [List.length_map]; exact sm.last q hq
theorem renAll_str {m : List (Int × Int)} {rs : List (Int × RowR)} (h : ∀ p ∈ rs, RowStr p.2) : ∀ p ∈ renAll m rs, RowStr p.2 := fun p hp => by
  obtain ⟨q, hq, rfl⟩ := List.mem_map.mp hp
  have k := h q hq
  refine ⟨k.sort, fun o ho => ?_, k.last⟩
  obtain ⟨o', ho', rfl⟩ := List.mem_map.mp ho
  exact k.op o' ho'
theorem movRow_same (one other : Int) (r : RowR) : (movRow one other r).params = r.params ∧ (movRow one other r).ops = r.ops ∧ (movRow one other r).last = r.last ∧ (movRow one other r).sort = r.sort := by
  unfold movRow; split <;> exact ⟨rfl, rfl, rfl, rfl⟩
noncomputable def movAll (one other : Int) (rs : List (Int × RowR)) : List (Int × RowR) := rs.map fun p => (p.1, movRow one other p.2)
theorem movAll_ok {one other : Int} {rs : List (Int × RowR)} (ok : RowsOK rs) : RowsOK (movAll one other rs) where
  len := by unfold movAll; rw [List.length_map]; exact ok.len
  asc := by unfold movAll; rw [List.map_map]; exact ok.asc
  row p hp := by
    obtain ⟨q, hq, rfl⟩ := List.mem_map.mp hp
    have r := ok.row q hq
    obtain ⟨a, b, c, _⟩ := movRow_same one other q.2
    dsimp only
    exact ⟨by rw [a]; exact r.params, by rw [b]; exact r.ops, by rw [b]; exact r.op, by rw [c]; exact r.last⟩
theorem movAll_str {one other : Int} {rs : List (Int × RowR)} (h : ∀ p ∈ rs, RowStr p.2) : ∀ p ∈ movAll one other rs, RowStr p.2 := fun p hp => by
  obtain ⟨q, hq, rfl⟩ := List.mem_map.mp hp
  have k := h q hq
  obtain ⟨_, b, c, e⟩ := movRow_same one other q.2
  dsimp only
  exact ⟨by rw [e]; exact k.sort, by rw [b]; exact k.op, by rw [c]; exact k.last⟩
theorem movRow_T (one other : Int) (r : RowR) : rowT (movRow one other r) = if r.parent = one then .tup [.str r.sort, .lst (intsL r.params), .int r.rest, .int r.var, .int other, .lst (r.ops.map opT), lastT r.last] else rowT r := by
  unfold movRow; split <;> rfl

theorem dset_at : ∀ {l : List (Int × AVal)} {i : Nat} {k : Int} {x v : AVal}, (l.map (·.1)).Nodup → l[i]? = some (k, x) → dset l k v = l.set i (k, v)
  | [], i, k, x, v, _, e => by simp at e
  | (j, u) :: r, 0, k, x, v, _, e => by simp at e; obtain ⟨rfl, rfl⟩ := e; simp [dset]
  | (j, u) :: r, i + 1, k, x, v, nd, e => by
    obtain ⟨n1, n2⟩ := List.nodup_cons.mp (by simpa using nd : (j :: r.map (·.1)).Nodup)
    have e' : r[i]? = some (k, x) := by simpa using e
    have hm : k ∈ r.map (·.1) := List.mem_map.mpr ⟨(k, x), List.mem_of_getElem? e', rfl⟩
    have : ¬ k = j := fun z => n1 (z ▸ hm)
    simp only [dset, if_neg this, List.set_cons_succ]
    rw [dset_at n2 e']
theorem map_set_at {α β : Type} {f : α → β} {l : List α} {i : Nat} {x : α} : (l.map f).set i (f x) = (l.set i x).map f := by rw [List.map_set]
theorem zset_ok {m : List (Int × Int)} (ok : MOK m) {k v : Int} (h1 : 1 ≤ k) (h2 : k < v) (h3 : v ≤ 14) (hl : m.length < 100) : MOK (zset m k v) := by
  refine ⟨fun j w e => ?_, by have := zset_len m k v; lia⟩
  rw [zget_zset] at e
  split at e
  · rename_i hj; subst hj; cases e; exact ⟨h1, h2, h3⟩
  · exact ok.up j w e
end


section
variable {B : Base} {H H' : AHeap} {d : Nat} {sc : Scope} {ρ : Loc}

theorem law_tail (T : Facts B) {N : Addr → Prop} {dk : Addr} {cells : List Int} {pos n : Nat} {p dx t : Addr} {kvs : List (Int × AVal)} {rs : List (Int × RowR)} {ba : Nat → Addr} {oa : Nat → Nat → Addr} {la : Nat → Addr} {m : List (Int × Int)} (P : PMs T N H p dx t kvs rs ba oa la) (hdk : H dk = some (deckO cells pos)) (nd : ¬ N dk) (okc : CellsOK cells) (g : Good n rs) (mk : MOK m) :
    WS B (d + 5) (scp (stAt 46)) [("deck", .ref dk), ("rows", rowsT rs), ("program", prgV T rs), ("chains", .dct (zv m)), ("names", .obj (T.fn 28) (namF (.dct (zv m)))), ("copy", .ref p)] ((bod (stAt 46)).drop 6) (RetQ fun v _ => v = .bool true) H := by
  have ok := g.ok
  have sm := g.sm
  have str : ∀ p ∈ rs, RowStr p.2 := fun p hp => (g.wf p hp).str
  have ok2 := renAll_ok (m := m) ok
  have sm2 := renAll_sm (m := m) sm
  have str2 := renAll_str (m := m) str
  have smlen := sm.len
  refine WS_cons ?_
  ktf_call q_mm
  refine ⟨T.fn 28, _, .inl rfl, by rfl, Facts.mt T 28 _ (by decide +kernel), ?_⟩
  ktf_call q_mm
  refine turn_spec (d := d + 2) T P mk ok fun H1 hN1 P1 => ⟨rfl, ?_⟩
  have hdk1 : H1 dk = some (deckO cells pos) := (hN1 dk nd).trans hdk
  ktf_call q_mm
  refine told_spec (d := d + 3) T P1.is ok2 ?_
  ktf_call q_mm
  refine CallG.freeze (renamed_spec (d := d + 3) T ok mk fun a ha => froze_dict ha ?_)
  refine V2_neD (n := 4) (.inl rfl) (.inl rfl) rfl (rows_same ok2 str2) (by decide) ⟨_, rfl, by ktf_call q_abs, fun _ => ?_⟩
  ktf_call q_mm
  refine told_spec (d := d + 3) T (prgV_is T rs) ok ?_
  ktf_call q_mm
  refine V2_neD (n := 4) (.inl rfl) (.inl rfl) rfl (rows_same ok str) (by decide) ⟨_, rfl, by ktf_call q_abs, fun _ => ?_⟩
  ktf_call q_mm
  refine ⟨by ktf_call q_abs, fun _ => ?_⟩
  ktf_call q_mm
  refine ⟨_, .inl rfl, by simp; lia, ?_⟩
  rw [rows_keys, sortZ_id (asc_le ok.asc), g.keys]
  ktf_call q_mm
  refine W1_swap2 (fun y => [("deck", .ref dk), ("rows", rowsT rs), ("program", prgV T rs), ("chains", .dct (zv m)), ("names", .obj (T.fn 28) (namF (.dct (zv m)))), ("copy", .ref p), ("labels", .lst (intsL (keysN n))), ("other", y)]) (fun x y => [("deck", .ref dk), ("rows", rowsT rs), ("program", prgV T rs), ("chains", .dct (zv m)), ("names", .obj (T.fn 28) (namF (.dct (zv m)))), ("copy", .ref p), ("labels", .lst (intsL (keysN n))), ("other", y), ("one", x)])
    (fun env E => swapped_two E (by decide +kernel) (by decide +kernel) (by decide) (by decide +kernel) (by decide +kernel) (by decide +kernel) (by decide +kernel) (by decide +kernel)) (by intro y; ktf_call q_lsetk) (by intro x y; ktf_call q_lsetk) ?_ (by decide +kernel)
  have gpos := g.pos
  have gle := g.le
  ktf_call q_mm
  refine ⟨n, by lia, .inl ⟨_, .inl rfl, by rw [intsL_len, keysN_len]⟩, ?_⟩
  ktf_call q_mm
  refine draw_spec (d := d + 4) T hdk1 okc gpos fun r1 hr1 => ?_
  refine ⟨_, .inr ⟨_, r1, .inl (.inl rfl), rfl, by lia, by unfold intsL; rw [List.getElem?_map, keysN_at hr1]; rfl⟩, ?_⟩
  ktf_call q_mm
  refine ⟨_, .inr ⟨_, 0, .inl (.inl rfl), rfl, by lia, by unfold intsL; rw [List.getElem?_map, keysN_at gpos]; rfl⟩, ?_⟩
  ktf_call q_mm
  refine ⟨by simp, _, _, rfl, ?_⟩
  obtain ⟨one, hone⟩ : ∃ one : Int, one = 10 + 3 * (r1 : Int) := ⟨_, rfl⟩
  obtain ⟨other, hoth⟩ : ∃ other : Int, other = 10 + 3 * ((0 : Nat) : Int) := ⟨_, rfl⟩
  rw [← hone, ← hoth]
  have P2 := P1.frame (H' := upd H1 dk (some (deckO cells (pos + 1)))) fun a ha => upd_ne _ _ fun z => nd (z ▸ ha)
  generalize hH2 : upd H1 dk (some (deckO cells (pos + 1))) = H2 at *
  ktf_call q_mm
  refine move_spec (d := d + 2) T P2 ok2 sm2 (by lia) fun H3 hN3 P3 => ⟨rfl, ?_⟩
  ktf_call q_mm
  refine renamed_spec (d := d + 3) T ok mk fun du hdu => ?_
  ktf_call q_mm
  obtain ⟨rs2, hrs2⟩ : ∃ rs2, rs2 = renAll m rs := ⟨_, rfl⟩
  have P3' : PMs T N H3 p dx t kvs (movAll one other rs2) ba oa la := by rw [hrs2]; exact P3
  rw [← hrs2] at ok2 str2 ⊢
  have keys2 : rs2.map (·.1) = keysN n := by rw [hrs2, renAll_keys]; exact g.keys
  have len2 : rs2.length ≤ 6 := by
    have := congrArg List.length keys2
    rw [List.length_map, keysN_len] at this; lia
  let F : List (Int × RowR) → List (Int × AVal) := fun l => l.map fun p => (p.1, rowT p.2)
  have Fk : ∀ l, (F l).map (·.1) = l.map (·.1) := fun l => by show (List.map _ (List.map _ l)) = _; rw [List.map_map]; rfl
  refine W1_forF (fun i H' => H' = upd H3 du (some (.dict (F (mixR (movRow one other) rs2 i))))) (fun y => [("deck", .ref dk), ("rows", rowsT rs), ("program", prgV T rs), ("chains", .dct (zv m)), ("names", .obj (T.fn 28) (namF (.dct (zv m)))), ("copy", .ref p), ("labels", .lst (intsL (keysN n))), ("other", .int other), ("one", .int one), ("due", .ref du), ("label", y)]) (by decide +kernel) (by intro y; ktf_call q_lsetk) (by intro _ _; rfl) ?_
  ktf_call q_mm
  refine ⟨_, .inl rfl, by rw [mixR_zero], fun i y H₂ hy e => ?_, fun H₂ e => ?_⟩
  · subst e
    rw [← keys2] at hy
    obtain ⟨k, r, rfl, hr⟩ := key_at hy
    have hr2 := mixR_at (f := movRow one other) hr
    have hFi : (F (mixR (movRow one other) rs2 i))[i]? = some (k, rowT r) := by show (List.map _ _)[i]? = _; rw [List.getElem?_map, hr2]; rfl
    have hnd : ((F (mixR (movRow one other) rs2 i)).map (·.1)).Nodup := by rw [Fk, mixR_keys]; exact asc_nodup ok2.asc
    have hget : dget (F (mixR (movRow one other) rs2 i)) k = some (rowT r) := dget_of hnd hFi
    have hst : (mixR (movRow one other) rs2 i).set i (k, movRow one other r) = mixR (movRow one other) rs2 (i + 1) := mixR_set hr
    have hdu2 : upd H3 du (some (.dict (F (mixR (movRow one other) rs2 i)))) du = some (.dict (F (mixR (movRow one other) rs2 i))) := upd_self ..
    refine WS_cons ?_
    ktf_call q_mm
    refine ⟨_, .inl ⟨_, k, .inr ⟨du, rfl, hdu2⟩, rfl, hget⟩, ?_⟩
    ktf_call q_mm
    refine ⟨fun hc => ?_, fun hc => ?_⟩
    · have hp : r.parent = one := by simpa using hc
      ktf_call q_mm
      refine W_uptoT (k := 4) ?_
      ktf_call q_mm
      refine ⟨_, .inl ⟨_, k, .inr ⟨du, rfl, hdu2⟩, rfl, hget⟩, ?_⟩
      refine ⟨_, rfl, by simp, by simp, ?_⟩
      ktf_call q_mm
      refine ⟨by simp, ?_⟩
      refine V2_addT (by simp) (by simp) ?_ (by simp)
      refine W_fromT (k := 5) ?_ (by decide)
      ktf_call q_mm
      refine ⟨_, .inl ⟨_, k, .inr ⟨du, rfl, hdu2⟩, rfl, hget⟩, ?_⟩
      refine ⟨_, rfl, by simp, by simp, ?_⟩
      refine V2_addT (by simp) (by simp) ?_ (by simp)
      ktf_call q_mm
      have hFl : (F (mixR (movRow one other) rs2 i)).length ≤ 100000 := by
        have := congrArg List.length (mixR_keys (movRow one other) rs2 i)
        rw [List.length_map, List.length_map] at this
        show (List.map _ _).length ≤ _
        rw [List.length_map]; lia
      refine U3_setD hdu2 hFl ?_
      ktf_call q_mm
      rw [upd_upd, dset_at hnd hFi, ← hst]
      have e1 : AVal.tup ([.str r.sort, .lst (intsL r.params), .int r.rest, .int r.var, .int other, .lst (r.ops.map opT), lastT r.last]) = rowT (movRow one other r) := by rw [movRow_T, if_pos hp]
      show upd H3 du (some (.dict ((F (mixR (movRow one other) rs2 i)).set i (k, AVal.tup ([.str r.sort, .lst (intsL r.params), .int r.rest, .int r.var, .int other, .lst (r.ops.map opT), lastT r.last]))))) = _
      rw [e1]
      show upd H3 du (some (.dict ((List.map _ _).set i _))) = upd H3 du (some (.dict (List.map _ _)))
      rw [List.map_set]
    · have hp : r.parent ≠ one := by simpa using hc
      ktf_call q_mm
      have e1 : movRow one other r = r := by unfold movRow; rw [if_neg hp]
      rw [e1] at hst
      have e2 : (mixR (movRow one other) rs2 i).set i (k, r) = mixR (movRow one other) rs2 i := by
        obtain ⟨h1, h2⟩ := List.getElem?_eq_some_iff.mp hr2
        have := List.set_getElem_self (as := mixR (movRow one other) rs2 i) h1
        rw [h2] at this; exact this
      rw [← hst, e2]
  · subst e
    have e1 : (intsL (keysN n)).length = rs2.length := by rw [intsL_len, ← keys2, List.length_map]
    rw [e1, mixR_all]
    have ok3 := movAll_ok (one := one) (other := other) ok2
    have str3 := movAll_str (one := one) (other := other) str2
    have hdu2 : upd H3 du (some (.dict (F (rs2.map fun p => (p.1, movRow one other p.2))))) du = some (.dict (F (movAll one other rs2))) := upd_self ..
    ktf_call q_mm
    refine W_and2 ?_
    ktf_call q_mm
    refine told_spec (d := d + 3) T (P3'.is.ext (ext_upd hdu)) ok3 ?_
    ktf_call q_mm
    refine V2_eqD (n := 4) (.inl rfl) (.inr ⟨du, rfl, hdu2⟩) rfl (rows_same ok3 str3) (by decide) ⟨_, rfl, by ktf_call q_abs, fun _ => ?_⟩
    ktf_call q_mm
    refine told_spec (d := d + 3) T (prgV_is T rs) ok ?_
    ktf_call q_mm
    refine V2_eqD (n := 4) (.inl rfl) (.inl rfl) rfl (rows_same ok str) (by decide) ?_
    ktf_call q_mm
    rfl
end


section
variable {B : Base} {H H' : AHeap} {d : Nat} {sc : Scope} {ρ : Loc}

/-- the store while the names are drawn -/
noncomputable def SN (C : Addr) (Hc : AHeap) (dk p dxn t ch : Addr) (cells : List Int) (pos : Nat) (m m' : List (Int × Int)) : AHeap :=
  upd (upd (upd (upd (upd Hc dxn (some (.shadow p))) p (some (.inst C dxn (namF (.ref t))))) t (some (.dict (zv m)))) ch (some (.dict (zv m')))) dk (some (deckO cells pos))
structure SNok (Hc : AHeap) (dk p dxn t ch : Addr) : Prop where
  hp : Hc p = none
  hdx : Hc dxn = none
  ht : Hc t = none
  hch : Hc ch = none
  dk : Hc dk ≠ none
  pd : p ≠ dxn
  tp : t ≠ p
  td : t ≠ dxn
  cp : ch ≠ p
  cd : ch ≠ dxn
  ct : ch ≠ t

theorem upd_swap {H : AHeap} {a b : Addr} {x y : Option AObj} (h : a ≠ b) : upd (upd H a x) b y = upd (upd H b y) a x := upd2_comm h
section
variable {C : Addr} {Hc : AHeap} {dk p dxn t ch : Addr} {cells : List Int} {pos : Nat} {m m' : List (Int × Int)}
theorem SNok.kp (h : SNok Hc dk p dxn t ch) : dk ≠ p := fun z => h.dk (by rw [z]; exact h.hp)
theorem SNok.kt (h : SNok Hc dk p dxn t ch) : dk ≠ t := fun z => h.dk (by rw [z]; exact h.ht)
theorem SNok.kc (h : SNok Hc dk p dxn t ch) : dk ≠ ch := fun z => h.dk (by rw [z]; exact h.hch)
theorem SNok.kd (h : SNok Hc dk p dxn t ch) : dk ≠ dxn := fun z => h.dk (by rw [z]; exact h.hdx)
theorem SN_dk : SN C Hc dk p dxn t ch cells pos m m' dk = some (deckO cells pos) := upd_self ..
theorem SN_setdk {pos' : Nat} : upd (SN C Hc dk p dxn t ch cells pos m m') dk (some (deckO cells pos')) = SN C Hc dk p dxn t ch cells pos' m m' := upd_upd ..
theorem SN_ch (h : SNok Hc dk p dxn t ch) : SN C Hc dk p dxn t ch cells pos m m' ch = some (.dict (zv m')) := by unfold SN; rw [upd_ne _ _ (Ne.symm h.kc), upd_self]
theorem SN_t (h : SNok Hc dk p dxn t ch) : SN C Hc dk p dxn t ch cells pos m m' t = some (.dict (zv m)) := by unfold SN; rw [upd_ne _ _ (Ne.symm h.kt), upd_ne _ _ (Ne.symm h.ct), upd_self]
theorem SN_p (h : SNok Hc dk p dxn t ch) : SN C Hc dk p dxn t ch cells pos m m' p = some (.inst C dxn (namF (.ref t))) := by
  unfold SN; rw [upd_ne _ _ (Ne.symm h.kp), upd_ne _ _ (Ne.symm h.cp), upd_ne _ _ (Ne.symm h.tp), upd_self]
theorem SN_setch (h : SNok Hc dk p dxn t ch) {m2 : List (Int × Int)} : upd (SN C Hc dk p dxn t ch cells pos m m') ch (some (.dict (zv m2))) = SN C Hc dk p dxn t ch cells pos m m2 := by
  unfold SN; rw [upd2_comm h.kc, upd_upd]
theorem SN_sett (h : SNok Hc dk p dxn t ch) {m2 : List (Int × Int)} : upd (SN C Hc dk p dxn t ch cells pos m m') t (some (.dict (zv m2))) = SN C Hc dk p dxn t ch cells pos m2 m' := by
  unfold SN; rw [upd2_comm h.kt, upd2_comm h.ct, upd_upd]
theorem SN_start (h : SNok Hc dk p dxn t ch) (hdk : Hc dk = some (deckO cells pos)) :
    upd (upd (upd (upd Hc dxn (some (.shadow p))) p (some (.inst C dxn (namF (.ref t))))) t (some (.dict []))) ch (some (.dict [])) = SN C Hc dk p dxn t ch cells pos [] [] := by
  unfold SN
  rw [upd_id _ dk]
  · rfl
  · rw [upd_ne _ _ h.kc, upd_ne _ _ h.kt, upd_ne _ _ h.kp, upd_ne _ _ h.kd]; exact hdk
theorem SN_froze1 (h : SNok Hc dk p dxn t ch) : ∃ H2, Froze (SN C Hc dk p dxn t ch cells pos m m') (.ref p) H2 (.obj C (namF (.dct (zv m)))) ∧ H2 = upd (DK Hc dk cells pos) ch (some (.dict (zv m'))) := by
  refine ⟨_, .trans (.field (SN_p h) (SN_t h)) (.inst (upd_self ..)), ?_⟩
  funext b
  unfold SN DK
  by_cases b1 : b = dxn
  · subst b1
    rw [upd_self, upd_ne _ _ (Ne.symm h.cd), upd_ne _ _ (Ne.symm h.kd)]; exact h.hdx.symm
  rw [upd_ne _ _ b1]
  by_cases b2 : b = p
  · subst b2
    rw [upd_self, upd_ne _ _ (Ne.symm h.cp), upd_ne _ _ (Ne.symm h.kp)]; exact h.hp.symm
  rw [upd_ne _ _ b2, upd_ne _ _ b2]
  by_cases b3 : b = t
  · subst b3
    rw [upd_self, upd_ne _ _ (Ne.symm h.ct), upd_ne _ _ (Ne.symm h.kt)]; exact h.ht.symm
  rw [upd_ne _ _ b3]
  by_cases b4 : b = dk
  · subst b4
    rw [upd_self, upd_ne _ _ h.kc, upd_self]
  rw [upd_ne _ _ b4]
  by_cases b5 : b = ch
  · subst b5
    rw [upd_self, upd_self]
  rw [upd_ne _ _ b5, upd_ne _ _ b3, upd_ne _ _ b2, upd_ne _ _ b1, upd_ne _ _ b5, upd_ne _ _ b4]
end

theorem law_front (T : Facts B) {ns : List Int} (hz : ns.length ≤ 63) : WS B (d + 5) (scp (stAt 46)) [("script", .lst (intsL ns))] (bod (stAt 46)) (RetQ fun v _ => v = .bool true) H := by
  refine WS_cons ?_
  ktf_call q_mm
  refine deck_spec (d := d + 4) T hz fun dk cells hdk okc => ?_
  ktf_call q_mm
  refine rows_spec (d := d + 2) T okc fun n rs pos g => ?_
  have ok := g.ok
  have str : ∀ p ∈ rs, RowStr p.2 := fun p hp => (g.wf p hp).str
  ktf_call q_mm
  refine made_spec (d := d) T ok g.wf ?_
  ktf_call q_mm
  refine told_spec (d := d + 3) T (prgV_is T rs) ok ?_
  ktf_call q_mm
  refine V2_neD (n := 4) (.inl rfl) (.inl rfl) rfl (rows_same ok str) (by decide) ⟨_, rfl, by ktf_call q_abs, fun _ => ?_⟩
  ktf_call q_mm
  refine WB_value ?_
  ktf_call q_mm
  refine isRight_spec (d := d + 1) T g (prgV_is T rs) ?_
  refine T1_bool ?_
  refine ⟨by ktf_call q_abs, fun _ => ?_⟩
  ktf_call q_mm
  refine ⟨by ktf_call q_abs, fun _ => ?_⟩
  ktf_call q_mm
  refine W1_swap3 (fun z => [("script", .lst (intsL ns)), ("deck", .ref dk), ("rows", rowsT rs), ("program", prgV T rs), ("chains", z)]) (fun y z => [("script", .lst (intsL ns)), ("deck", .ref dk), ("rows", rowsT rs), ("program", prgV T rs), ("chains", z), ("names", y)]) (fun x y z => [("script", .lst (intsL ns)), ("deck", .ref dk), ("rows", rowsT rs), ("program", prgV T rs), ("chains", z), ("names", y), ("copy", x)])
    (fun env E => swapped_three E (by decide +kernel) (by decide +kernel) (by decide +kernel) (by decide) (by decide) (by decide +kernel) (by decide +kernel) (by decide +kernel) (by decide +kernel) (by decide +kernel) (by decide +kernel)) (by intro z; ktf_call q_lsetk) (by intro y z; ktf_call q_lsetk) (by intro x y z; ktf_call q_lsetk) ?_ (by decide +kernel)
  have hdk0 : DK H dk cells pos dk = some (deckO cells pos) := upd_self ..
  generalize hD0 : DK H dk cells pos = D0 at *
  ktf_call q_mm
  refine ⟨T.fn 18, _, .inl rfl, by rfl, Facts.mt T 18 _ (by decide +kernel), ?_⟩
  ktf_call q_mm
  refine copied_spec (d := d) T (prgV_is T rs) ok fun cv Hc eH PM0 => ?_
  have hdkc : Hc dk = some (deckO cells pos) := by rw [eH dk (by rw [hdk0]; simp)]; exact hdk0
  obtain ⟨pp, pdx, pt, kvs, ba, oa, la, rfl, P⟩ := PM0.narrow
  have nN : ∀ a, Hc a = none → ¬ (D0 a = none ∧ Hc a ≠ none) := fun a h z => z.2 h
  have nd : ¬ (D0 dk = none ∧ Hc dk ≠ none) := fun z => by rw [hdk0] at z; exact nomatch z.1
  ktf_call q_mm
  refine names_new (d := d + 3) T fun p dxn t n1 n2 n3 a1 a2 a3 => ?_
  ktf_call q_mm
  refine W_dict0 fun ch a4 => ?_
  ktf_call q_mm
  refine ⟨by simp, _, _, _, rfl, ?_⟩
  have c1 : ch ≠ t := fun z => by rw [z] at a4; exact absurd ((upd_self ..).symm.trans a4) (by simp)
  have c2 : ch ≠ p := fun z => by rw [z, upd_ne _ _ (Ne.symm n2)] at a4; exact absurd ((upd_self ..).symm.trans a4) (by simp)
  have c3 : ch ≠ dxn := fun z => by rw [z, upd_ne _ _ (Ne.symm n3), upd_ne _ _ (Ne.symm n1)] at a4; exact absurd ((upd_self ..).symm.trans a4) (by simp)
  have a5 : Hc ch = none := by rwa [upd_ne _ _ c1, upd_ne _ _ c2, upd_ne _ _ c3] at a4
  have K : SNok Hc dk p dxn t ch := ⟨a1, a2, a3, a5, by rw [hdkc]; simp, n1, n2, n3, c2, c3, c1⟩
  rw [SN_start K hdkc]
  ktf_call q_mm
  refine W1_forF (fun i H' => ∃ pos m, H' = SN (T.fn 28) Hc dk p dxn t ch cells pos m m ∧ MOK m ∧ m.length ≤ i) (fun y => [("script", .lst (intsL ns)), ("deck", .ref dk), ("rows", rowsT rs), ("program", prgV T rs), ("chains", .ref ch), ("names", .ref p), ("copy", .ref pp), ("turn", y)]) (by decide +kernel) (by intro y; ktf_call q_lsetk) (by intro _ _; rfl) ?_
  ktf_call q_mm
  refine draw_spec (d := d + 4) (many := 4) T SN_dk okc (by decide) fun nt hnt => ?_
  rw [SN_setdk]
  refine ⟨nt, rfl, ?_⟩
  refine ⟨_, iter_rng (by lia), ⟨_, [], rfl, ⟨fun k v e => (nomatch e), by simp⟩, by simp⟩, fun i y H₂ hy ⟨pos1, m, e, mk, ml⟩ => ?_, fun H₂ ⟨pos1, m, e, mk, ml⟩ => ?_⟩
  · subst e
    obtain ⟨rfl, hi⟩ := rangeL_at hy
    refine WS_cons ?_
    ktf_call q_mm
    refine draw_spec (d := d + 4) (many := 11) T SN_dk okc (by decide) fun r1 hr1 => ?_
    rw [SN_setdk]
    ktf_call q_mm
    refine V2_notInD (.inr ⟨ch, rfl, SN_ch K⟩) ⟨_, rfl, ?_⟩
    rw [dget_zv]
    obtain ⟨var, hvar⟩ : ∃ var : Int, var = 1 + (r1 : Int) := ⟨_, rfl⟩
    rw [← hvar]
    refine ⟨fun hc => ?_, fun hc => ?_⟩
    · ktf_call q_mm
      refine draw_spec (d := d + 4) (many := 3) T SN_dk okc (by decide) fun r2 hr2 => ?_
      rw [SN_setdk]
      ktf_call q_mm
      refine U3_setD (SN_ch K) (by simp [zv]; lia) ?_
      rw [dset_zv, SN_setch K]
      obtain ⟨val, hval⟩ : ∃ val : Int, val = var + 1 + (r2 : Int) := ⟨_, rfl⟩
      rw [← hval]
      ktf_call q_mm
      refine ⟨T.fn 28, _, .inr ⟨p, dxn, rfl, SN_p K⟩, by rfl, Facts.mt T 28 _ (by decide +kernel), ?_⟩
      ktf_call q_mm
      refine ⟨.int val, .inl ⟨_, var, .inr ⟨ch, rfl, SN_ch K⟩, rfl, by rw [dget_zv, zget_zset, if_pos rfl]; rfl⟩, ?_⟩
      ktf_call q_mm
      refine namesPut_spec (d := d + 4) T (.inr ⟨p, dxn, rfl, SN_p K⟩) (SN_t K) (by lia) (by lia) ⟨rfl, ?_⟩
      rw [SN_sett K]
      ktf_call q_mm
      refine ⟨_, _, rfl, zset_ok mk (by lia) (by lia) (by lia) (by lia), ?_⟩
      have := zset_len m var val
      lia
    · ktf_call q_mm
      exact ⟨_, _, rfl, mk, by lia⟩
  · subst e
    show WS B _ _ _ _ _ _
    obtain ⟨H2, fz, hH2⟩ := SN_froze1 (C := T.fn 28) (cells := cells) (pos := pos1) (m := m) (m' := m) K
    refine WS_freeze (x := "names") (by ktf_call q_lget) fz ?_
    rw [hH2]
    have el : lset [("script", .lst (intsL ns)), ("deck", .ref dk), ("rows", rowsT rs), ("program", prgV T rs), ("chains", .ref ch), ("names", .ref p), ("copy", .ref pp)] "names" (.obj (T.fn 28) (namF (.dct (zv m)))) = ([("script", .lst (intsL ns)), ("deck", .ref dk), ("rows", rowsT rs), ("program", prgV T rs), ("chains", .ref ch), ("names", .obj (T.fn 28) (namF (.dct (zv m)))), ("copy", .ref pp)] : Loc) := by ktf_call q_lsetk
    rw [el]
    have hc2 : DK Hc dk cells pos1 ch = none := (upd_ne _ _ (Ne.symm K.kc)).trans a5
    refine WS_freezeD (x := "chains") (ρ' := [("script", .lst (intsL ns)), ("deck", .ref dk), ("rows", rowsT rs), ("program", prgV T rs), ("chains", .dct (zv m)), ("names", .obj (T.fn 28) (namF (.dct (zv m)))), ("copy", .ref pp)]) hc2 (by ktf_call q_lget) (by ktf_call q_lsetk) ?_
    refine WS_sub (ρ' := [("deck", .ref dk), ("rows", rowsT rs), ("program", prgV T rs), ("chains", .dct (zv m)), ("names", .obj (T.fn 28) (namF (.dct (zv m)))), ("copy", .ref pp)]) (by ktf_call q_sub) ?_
    have P2 := P.frame (H' := DK Hc dk cells pos1) fun a ha => upd_ne _ _ fun z => nd (z ▸ ha)
    exact law_tail (d := d) T P2 (upd_self ..) nd okc g mk
end


/-! ## the join -/

theorem ints_of_well {P : Params} {h : Heap} : ∀ {vs : List Value} {ns : List Int}, WellAll P h vs (ofPys (ns.map PyData.int)) → IntsAre vs ns
  | _, [], w => by
    simp only [List.map_nil, ofPys] at w
    cases w; exact .nil
  | _, n :: ns, w => by
    simp only [List.map_cons, ofPys, ofPy] at w
    cases w with
    | cons a b =>
      cases a
      exact .cons _ _ (ints_of_well b)

theorem law_join {prog : Program} {w : World} {K : Frag} {mg mb : Str → Option Value} {h₀ : Heap} {s : Shared} {A : Around} {env : Env} {ns : List Int} {a : Addr} {m : Str → Option Value} {R : Flow → Shared → Prop} {E : Value → Shared → Prop}
    (kok : KOK K) (inK : K.In h₀) (g : h₀.Ns mainGlobals mg) (b : h₀.Ns builtinsNs mb) (bv : ∀ x, x ≠ ("__name__" : Str) → mb x = bootBuiltins x) (lim : h₀.NoLimit)
    (F : Fr h₀ env.locals s.heap m) (hm : m "script" = some (.ref a)) (wl : Well w.params h₀ (.ref a) (ofPy (PyData.list (ns.map PyData.int)))) (hz : ns.length ≤ 63) (room : Room 5 A)
    (hs : env.scope = scp (stAt 46)) (hc : env.cells = []) (hg : env.globals = mainGlobals) (hb : env.builtins = builtinsNs) (hL : env.locals = h₀.objs.size)
    (q : ∀ h' tk, (∀ b o, h₀.get? b = some o → h'.get? b = some o) → R (Flow.ret (.bool true)) { s with heap := h', toks := tk }) :
    wpAny (model prog w) A (execs (bod (stAt 46)) env) R E s := by
  let B : Base := ⟨prog, w, h₀, K, mg, mb, inK, g, b, bv, lim⟩
  let H : AHeap := fun _ => none
  have T : Facts B := KOK.facts (B := B) kok
  have hsk : env.scope.kind = .function := by rw [hs]; decide +kernel
  have own : ∀ c, Own env c → c = h₀.objs.size := fun c h => by
    rcases h with h | ⟨x, h⟩
    · rw [h, hL]
    · rw [hc] at h; cases h
  have fresh : ∀ c o, h₀.get? c = some o → ¬ Own env c := fun c o e h => by
    have := own c h
    exact absurd (Heap.lt_size e) (by rw [this]; exact Nat.lt_irrefl _)
  have S : SRel B H (Own env) s.heap := by
    refine ⟨fun c o e => ⟨F.keep c o e, fun h => h.elim (fun z => z rfl) (fresh c o e)⟩, fun c h => ⟨rfl, ?_⟩, fun c o e => (nomatch e)⟩
    rw [own c h, ← hL]
    obtain ⟨o, es, ep, e, _⟩ := F.ns
    exact ⟨o, e⟩
  have hv : VRel B (Held H (Own env)) s.heap (.lst (intsL ns)) (.ref a) := by
    unfold ofPy at wl
    cases wl with
    | list ha hw =>
      have I := ints_of_well hw
      have r := of_intsAre (B := B) (D := Held H (Own env)) (h := s.heap) I
      exact .lst (n := 0) (F.keep _ _ ha) (fun h => h.elim (fun z => z rfl) (fresh _ _ ha)) r.1 r.2
  have nk : ∀ x, env.kindOf x ≠ some .cell ∧ env.kindOf x ≠ some .free := fun x => by
    have all : ((scp (stAt 46)).names.all fun p => p.2 != .cell && p.2 != .free) = true := by decide +kernel
    have key : ∀ k, env.kindOf x = some k → k ≠ .cell ∧ k ≠ .free := fun k e => by
      unfold Env.kindOf at e
      rw [hs] at e
      have := List.all_eq_true.mp all (x, k) (mem_of_lookup e)
      simpa using this
    exact ⟨fun e => (key _ e).1 rfl, fun e => (key _ e).2 rfl⟩
  have hks : env.kindOf "script" = some .local := by
    unfold Env.kindOf; rw [hs]; decide +kernel
  have L : LRel B (Held H (Own env)) (Own env) s.heap env [("script", .lst (intsL ns))] := by
    refine ⟨fun c h => h, ⟨m, F.ns, fun x u e k => ?_⟩, fun x u e k => (k.elim (nk x).1 (nk x).2).elim, fun x u e => ?_, fun x k => (k.elim (nk x).1 (nk x).2).elim, fun x y c e => ?_, fun x c hm => ?_⟩
    · have hx : x = "script" := by
        by_cases h : x = ("script" : Str)
        · exact h
        · simp [lget, h] at e
      subst hx
      rw [lget_hd] at e
      cases e
      exact ⟨_, hm, hv⟩
    · have hx : x = "script" := by
        by_cases h : x = ("script" : Str)
        · exact h
        · simp [lget, h] at e
      subst hx
      exact .inl hks
    · rw [hc] at e; cases e
    · rw [hc] at hm; cases hm
  have W := law_front (B := B) (H := H) (d := 0) T hz
  refine wpAny_mono (W A env (Own env) s room ⟨hs, by rw [← hs]; exact hsk, hg, hb⟩ S L) (fun f s' hf => ?_) (fun _ _ f => f.elim)
  obtain ⟨fl, ρ', H', rf, S', L', ⟨⟨h', tk, rfl⟩, k⟩, hq⟩ := hf
  have keep : ∀ b o, h₀.get? b = some o → h'.get? b = some o := fun b o e => (k b o (F.keep b o e) rfl (fresh b o e)).1
  cases rf with
  | next => exact nomatch (show AVal.none = AVal.bool true from hq)
  | ret r =>
    have hx := (show _ = AVal.bool true from hq)
    subst hx
    cases r
    exact q h' tk keep

theorem room5 (env : Env) : Room 5 (callerA.deeper env) := by
  refine ⟨rfl, ?_, ?_⟩
  · show callerA.depth + 1 + 10 * 5 ≤ 900
    decide +kernel
  · show callerA.units + 3 + 30 * 5 ≤ 9000
    decide +kernel

theorem holdsT (R : WRecords) (args ds : List WData) : (WShape.has R (.bool true) .bool && WTm.holds R (.eq .res (.lit (.bool true))) { args := args, res := some (.bool true), after := ds }) = true := by
  have h1 : WShape.has R (.bool true) .bool = true := by unfold WShape.has; rfl
  have h2 : same (.bool true) (.bool true) = true := by decide +kernel
  rw [h1, Bool.true_and]
  unfold WTm.holds WTm.value
  simp only [WTm.value, h2]

noncomputable def head.tw10010264046613662565 : Nat := 0
noncomputable def head.tw10018764681926925449 : Nat := 0
noncomputable def head.tw10079960370226730655 : Nat := 0
noncomputable def head.tw10205530081349824492 : Nat := 0
noncomputable def head.tw10261356005730403935 : Nat := 0
noncomputable def head.tw10366927770000222440 : Nat := 0
noncomputable def head.tw10504981510240967646 : Nat := 0
noncomputable def head.tw10706776884845955466 : Nat := 0
noncomputable def head.tw10812213935944405949 : Nat := 0
noncomputable def head.tw10840385229135970747 : Nat := 0
noncomputable def head.tw10865165270600546614 : Nat := 0
noncomputable def head.tw10875119458065257276 : Nat := 0
noncomputable def head.tw10987702880554017565 : Nat := 0
noncomputable def head.tw11005904730967762025 : Nat := 0
noncomputable def head.tw11426403942048686318 : Nat := 0
noncomputable def head.tw11427066125472700054 : Nat := 0
noncomputable def head.tw11434997419882176723 : Nat := 0
noncomputable def head.tw11544532188706048022 : Nat := 0
noncomputable def head.tw11628534518673281344 : Nat := 0
noncomputable def head.tw11714945338242495837 : Nat := 0
noncomputable def head.tw11770459041652445329 : Nat := 0
noncomputable def head.tw11988142204041823098 : Nat := 0
noncomputable def head.tw12032222614953749359 : Nat := 0
noncomputable def head.tw12074249297620881909 : Nat := 0
noncomputable def head.tw1211024037004892549 : Nat := 0
noncomputable def head.tw12201952087667049370 : Nat := 0
noncomputable def head.tw12310735299239354703 : Nat := 0
noncomputable def head.tw12344544660321961925 : Nat := 0
noncomputable def head.tw12359489953124434286 : Nat := 0
noncomputable def head.tw12364624919760631829 : Nat := 0
noncomputable def head.tw12475708393154427166 : Nat := 0
noncomputable def head.tw12704426703380559182 : Nat := 0
noncomputable def head.tw12740806245664736207 : Nat := 0
noncomputable def head.tw12822298378996975857 : Nat := 0
noncomputable def head.tw12858780395421280599 : Nat := 0
noncomputable def head.tw12903917746401883607 : Nat := 0
noncomputable def head.tw12998212659555988865 : Nat := 0
noncomputable def head.tw13086575352542018947 : Nat := 0
noncomputable def head.tw1315816938146588887 : Nat := 0
noncomputable def head.tw13199516396595161752 : Nat := 0
noncomputable def head.tw13294958713779813728 : Nat := 0
noncomputable def head.tw13295774097974887486 : Nat := 0
noncomputable def head.tw13337238644230332656 : Nat := 0
noncomputable def head.tw13353151263460963528 : Nat := 0
noncomputable def head.tw13510609219080548989 : Nat := 0
noncomputable def head.tw13605870324054321959 : Nat := 0
noncomputable def head.tw13689084217373910675 : Nat := 0
noncomputable def head.tw13942192884097748152 : Nat := 0
noncomputable def head.tw13954853420313727417 : Nat := 0
noncomputable def head.tw13955511503576765797 : Nat := 0
noncomputable def head.tw13988103294471073821 : Nat := 0
noncomputable def head.tw14112051064653734678 : Nat := 0
noncomputable def head.tw14205479233844494046 : Nat := 0
noncomputable def head.tw14417885227837004991 : Nat := 0
noncomputable def head.tw14492117785962260688 : Nat := 0
noncomputable def head.tw14628233357713752721 : Nat := 0
noncomputable def head.tw14643560169476415855 : Nat := 0
noncomputable def head.tw14676189674455941282 : Nat := 0
noncomputable def head.tw14699528089545365996 : Nat := 0
noncomputable def head.tw14788773977795034992 : Nat := 0
noncomputable def head.tw14842460003800876886 : Nat := 0
noncomputable def head.tw14843749296085226474 : Nat := 0
noncomputable def head.tw14877080517539528568 : Nat := 0
noncomputable def head.tw14943480678444902952 : Nat := 0
noncomputable def head.tw1495726902847802894 : Nat := 0
noncomputable def head.tw14969872817325187116 : Nat := 0
noncomputable def head.tw1499353310998574721 : Nat := 0
noncomputable def head.tw15035418422258542911 : Nat := 0
noncomputable def head.tw15037083628117588352 : Nat := 0
noncomputable def head.tw15064752311394979489 : Nat := 0
noncomputable def head.tw1506576300011279404 : Nat := 0
noncomputable def head.tw15091486752826498866 : Nat := 0
noncomputable def head.tw15112835437128306455 : Nat := 0
noncomputable def head.tw15204471325056678010 : Nat := 0
noncomputable def head.tw15410735652082386980 : Nat := 0
noncomputable def head.tw15468718075485040107 : Nat := 0
noncomputable def head.tw15501141472565082077 : Nat := 0
noncomputable def head.tw15510365090734361527 : Nat := 0
noncomputable def head.tw15520248196984853422 : Nat := 0
noncomputable def head.tw15638870477510070732 : Nat := 0
noncomputable def head.tw15782939476341012554 : Nat := 0
noncomputable def head.tw15798066900824788120 : Nat := 0
noncomputable def head.tw15841401105113185080 : Nat := 0
noncomputable def head.tw15895551434495452948 : Nat := 0
noncomputable def head.tw15895748673760503845 : Nat := 0
noncomputable def head.tw16031315777459398524 : Nat := 0
noncomputable def head.tw16072502192527678464 : Nat := 0
noncomputable def head.tw16106133796442146334 : Nat := 0
noncomputable def head.tw16128420640991077102 : Nat := 0
noncomputable def head.tw16172356507618199906 : Nat := 0
noncomputable def head.tw1618804561499322139 : Nat := 0
noncomputable def head.tw16572314662081343053 : Nat := 0
noncomputable def head.tw16714887947964762639 : Nat := 0
noncomputable def head.tw16817119741492734445 : Nat := 0
noncomputable def head.tw16874305072444578374 : Nat := 0
noncomputable def head.tw16922147877168347812 : Nat := 0
noncomputable def head.tw16997897962222511 : Nat := 0
noncomputable def head.tw17002534310236347988 : Nat := 0
noncomputable def head.tw17017319662998615 : Nat := 0
noncomputable def head.tw17142359554024780413 : Nat := 0
noncomputable def head.tw1714602735852981970 : Nat := 0
noncomputable def head.tw17173245716831642929 : Nat := 0
noncomputable def head.tw17188972718952451159 : Nat := 0
noncomputable def head.tw17212568112599259466 : Nat := 0
noncomputable def head.tw17243387458012846398 : Nat := 0
noncomputable def head.tw17348764703882912863 : Nat := 0
noncomputable def head.tw17411354535832351560 : Nat := 0
noncomputable def head.tw17464823870196871000 : Nat := 0
noncomputable def head.tw1748456618969930982 : Nat := 0
noncomputable def head.tw17508272824862286709 : Nat := 0
noncomputable def head.tw17525636777796739105 : Nat := 0
noncomputable def head.tw17552560543380974038 : Nat := 0
noncomputable def head.tw17577399041416155939 : Nat := 0
noncomputable def head.tw17646911460466567920 : Nat := 0
noncomputable def head.tw17698105195316432488 : Nat := 0
noncomputable def head.tw17700853532424174462 : Nat := 0
noncomputable def head.tw17725469503822016867 : Nat := 0
noncomputable def head.tw17782148633632673465 : Nat := 0
noncomputable def head.tw17826015225549371706 : Nat := 0
noncomputable def head.tw17958272820484234708 : Nat := 0
noncomputable def head.tw18007968972792079559 : Nat := 0
noncomputable def head.tw18051680202136193954 : Nat := 0
noncomputable def head.tw18416563613846182222 : Nat := 0
noncomputable def head.tw18433677622606106133 : Nat := 0
noncomputable def head.tw1909714482019496454 : Nat := 0
noncomputable def head.tw1985537357303476512 : Nat := 0
noncomputable def head.tw1992862871153497056 : Nat := 0
noncomputable def head.tw2096541523181747872 : Nat := 0
noncomputable def head.tw2154566216772986472 : Nat := 0
noncomputable def head.tw2203363585012173787 : Nat := 0
noncomputable def head.tw2237326684586592538 : Nat := 0
noncomputable def head.tw2260579728952749127 : Nat := 0
noncomputable def head.tw2393098407364606883 : Nat := 0
noncomputable def head.tw2506711637615833298 : Nat := 0
noncomputable def head.tw2525317073905713282 : Nat := 0
noncomputable def head.tw2554682012703037696 : Nat := 0
noncomputable def head.tw2581250870941146908 : Nat := 0
noncomputable def head.tw262713603470380999 : Nat := 0
noncomputable def head.tw2825341998796452840 : Nat := 0
noncomputable def head.tw300626226527484142 : Nat := 0
noncomputable def head.tw3088210815446039105 : Nat := 0
noncomputable def head.tw3160712208675142370 : Nat := 0
noncomputable def head.tw3304075619188804072 : Nat := 0
noncomputable def head.tw3368030927266983236 : Nat := 0
noncomputable def head.tw3501597964444990463 : Nat := 0
noncomputable def head.tw3512634313551410195 : Nat := 0
noncomputable def head.tw3547240966391284428 : Nat := 0
noncomputable def head.tw3556061257289618393 : Nat := 0
noncomputable def head.tw3615648651819825313 : Nat := 0
noncomputable def head.tw3690969761935527329 : Nat := 0
noncomputable def head.tw3746228215898030841 : Nat := 0
noncomputable def head.tw3749026756887285471 : Nat := 0
noncomputable def head.tw3794523003379204399 : Nat := 0
noncomputable def head.tw3980653432952411973 : Nat := 0
noncomputable def head.tw3986194592780655508 : Nat := 0
noncomputable def head.tw4023466491090337370 : Nat := 0
noncomputable def head.tw4160124254940468481 : Nat := 0
noncomputable def head.tw4311042196063409733 : Nat := 0
noncomputable def head.tw4415685298772064003 : Nat := 0
noncomputable def head.tw45052839361067614 : Nat := 0
noncomputable def head.tw467416434755642258 : Nat := 0
noncomputable def head.tw4691952243595246448 : Nat := 0
noncomputable def head.tw4693820183103290663 : Nat := 0
noncomputable def head.tw4709128311485490483 : Nat := 0
noncomputable def head.tw4746297304354101679 : Nat := 0
noncomputable def head.tw4839655697589452165 : Nat := 0
noncomputable def head.tw4857777746444614323 : Nat := 0
noncomputable def head.tw4964814941381164201 : Nat := 0
noncomputable def head.tw4965378191221513410 : Nat := 0
noncomputable def head.tw4972248218790579157 : Nat := 0
noncomputable def head.tw4975070653579243887 : Nat := 0
noncomputable def head.tw4976181008148175253 : Nat := 0
noncomputable def head.tw5092371620264689978 : Nat := 0
noncomputable def head.tw5104563664521345299 : Nat := 0
noncomputable def head.tw5111174896325423537 : Nat := 0
noncomputable def head.tw5141578139466067413 : Nat := 0
noncomputable def head.tw5319049981483164881 : Nat := 0
noncomputable def head.tw532055438628499158 : Nat := 0
noncomputable def head.tw5438144065070405397 : Nat := 0
noncomputable def head.tw5479459121986351116 : Nat := 0
noncomputable def head.tw5487235932777146282 : Nat := 0
noncomputable def head.tw5506250874072839755 : Nat := 0
noncomputable def head.tw5599997604879368025 : Nat := 0
noncomputable def head.tw5617373736292572815 : Nat := 0
noncomputable def head.tw5788964047882338313 : Nat := 0
noncomputable def head.tw5797013207949663412 : Nat := 0
noncomputable def head.tw5870146547769353613 : Nat := 0
noncomputable def head.tw5906749814970224870 : Nat := 0
noncomputable def head.tw5944575059761466720 : Nat := 0
noncomputable def head.tw5986637957666399235 : Nat := 0
noncomputable def head.tw6053349399257934933 : Nat := 0
noncomputable def head.tw6079359036626576793 : Nat := 0
noncomputable def head.tw6085824867444503733 : Nat := 0
noncomputable def head.tw6100774026682323163 : Nat := 0
noncomputable def head.tw6121141971511671821 : Nat := 0
noncomputable def head.tw6202090305015876224 : Nat := 0
noncomputable def head.tw6211381574409162282 : Nat := 0
noncomputable def head.tw6237802210402583469 : Nat := 0
noncomputable def head.tw6247268493268985975 : Nat := 0
noncomputable def head.tw649443455394278489 : Nat := 0
noncomputable def head.tw6587087628758450585 : Nat := 0
noncomputable def head.tw6588589085864783938 : Nat := 0
noncomputable def head.tw6640010369347007910 : Nat := 0
noncomputable def head.tw6684978435548883818 : Nat := 0
noncomputable def head.tw6737735255597943219 : Nat := 0
noncomputable def head.tw6772502638888315869 : Nat := 0
noncomputable def head.tw6846597200999610202 : Nat := 0
noncomputable def head.tw6846866878297920324 : Nat := 0
noncomputable def head.tw6857060684267632606 : Nat := 0
noncomputable def head.tw6889739017440866108 : Nat := 0
noncomputable def head.tw69809265629811306 : Nat := 0
noncomputable def head.tw7090939061502383884 : Nat := 0
noncomputable def head.tw7119846925741900413 : Nat := 0
noncomputable def head.tw7253898381062576733 : Nat := 0
noncomputable def head.tw7277520189549225825 : Nat := 0
noncomputable def head.tw7287109101882759415 : Nat := 0
noncomputable def head.tw733406405333840765 : Nat := 0
noncomputable def head.tw7404141018258913797 : Nat := 0
noncomputable def head.tw7450023128482652576 : Nat := 0
noncomputable def head.tw7494366503370351645 : Nat := 0
noncomputable def head.tw7658410731251134818 : Nat := 0
noncomputable def head.tw7661765248129044261 : Nat := 0
noncomputable def head.tw7680146299302783591 : Nat := 0
noncomputable def head.tw7704315382344345624 : Nat := 0
noncomputable def head.tw7712916153251135833 : Nat := 0
noncomputable def head.tw7758381527925395934 : Nat := 0
noncomputable def head.tw7789450098604059249 : Nat := 0
noncomputable def head.tw7833285031277912329 : Nat := 0
noncomputable def head.tw7876399200375917224 : Nat := 0
noncomputable def head.tw8101760021730824546 : Nat := 0
noncomputable def head.tw8187629637223713605 : Nat := 0
noncomputable def head.tw8216834362191484069 : Nat := 0
noncomputable def head.tw8299393411229908732 : Nat := 0
noncomputable def head.tw8382746154173761051 : Nat := 0
noncomputable def head.tw8402214883040486957 : Nat := 0
noncomputable def head.tw8408249889716310983 : Nat := 0
noncomputable def head.tw8414573866900348196 : Nat := 0
noncomputable def head.tw8451290768687142514 : Nat := 0
noncomputable def head.tw8535708456716222715 : Nat := 0
noncomputable def head.tw8627200689577751383 : Nat := 0
noncomputable def head.tw8758324158161630591 : Nat := 0
noncomputable def head.tw8773370040425892893 : Nat := 0
noncomputable def head.tw8874674299285249911 : Nat := 0
noncomputable def head.tw8997269238129315039 : Nat := 0
noncomputable def head.tw9062998866958442273 : Nat := 0
noncomputable def head.tw9083612298779875492 : Nat := 0
noncomputable def head.tw9101448428047585222 : Nat := 0
noncomputable def head.tw9103479521544129834 : Nat := 0
noncomputable def head.tw9114333099845857663 : Nat := 0
noncomputable def head.tw9145527808636388435 : Nat := 0
noncomputable def head.tw9162278640276766204 : Nat := 0
noncomputable def head.tw9186546921256032858 : Nat := 0
noncomputable def head.tw9280153536138602973 : Nat := 0
noncomputable def head.tw9325057278558614444 : Nat := 0
noncomputable def head.tw9353324838224930552 : Nat := 0
noncomputable def head.tw9388430590476628193 : Nat := 0
noncomputable def head.tw9495540839478616804 : Nat := 0
noncomputable def head.tw9515422150858430662 : Nat := 0
noncomputable def head.tw9658139154387788515 : Nat := 0
noncomputable def head.tw9702098958229961203 : Nat := 0
noncomputable def head.tw9746458257258439470 : Nat := 0
noncomputable def head.tw9820158181544301314 : Nat := 0
noncomputable def head.tw9978949632667528635 : Nat := 0
noncomputable def head.tw9984397402777080727 : Nat := 0
noncomputable def head.tw979171164856182457 : Nat := 0
noncomputable def head.tw6474009502463322548 : Nat := 0
noncomputable def head.tw12169159797338600327 : Nat := 0
noncomputable def head.tw7873374376366092466 : Nat := 0
noncomputable def head.tw6061140604400286620 : Nat := 0
noncomputable def head.tw13335025841360890868 : Nat := 0
noncomputable def head.tw8904842690337714185 : Nat := 0
noncomputable def head.tw11147590313062582412 : Nat := 0
noncomputable def head.tw9328142537993144618 : Nat := 0
noncomputable def head.tw5442484570284002534 : Nat := 0
noncomputable def head.tw2418714472272084401 : Nat := 0
noncomputable def head.tw13515226485189076294 : Nat := 0
noncomputable def head.tw10723135477816409734 : Nat := 0
noncomputable def head.tw2418714467272084401 : Nat := 0
noncomputable def head.tw5013519839679359659 : Nat := 0
noncomputable def head.tw17608190574486352970 : Nat := 0
noncomputable def head.tw16966009324859112401 : Nat := 0
noncomputable def head.tw9554341912967214643 : Nat := 0
noncomputable def head.tw12287978374625458572 : Nat := 0
noncomputable def head.tw16441004959143088680 : Nat := 0
noncomputable def head.tw3790771472595898956 : Nat := 0
noncomputable def head.tw15532160837916378065 : Nat := 0
noncomputable def head.tw9987851973559822609 : Nat := 0
noncomputable def head.tw16894197260953374720 : Nat := 0
noncomputable def head.tw1319983325249436295 : Nat := 0
noncomputable def head.tw3869590956505411354 : Nat := 0
noncomputable def head.tw8169693465737517768 : Nat := 0
noncomputable def head.tw16471695610963150605 : Nat := 0
noncomputable def head.tw8069490553459650110 : Nat := 0
noncomputable def head.tw5737951250597237232 : Nat := 0
noncomputable def head.tw9585072729554991084 : Nat := 0
noncomputable def head.tw5331137831679937033 : Nat := 0
noncomputable def head.tw7599496313472250701 : Nat := 0
noncomputable def head.tw8812732774380208333 : Nat := 0
noncomputable def head.tw1919001801439425371 : Nat := 0
noncomputable def head.tw12472887615940459650 : Nat := 0
noncomputable def head.tw362159924006681238 : Nat := 0
noncomputable def head.tw15296082917334920728 : Nat := 0
noncomputable def head.tw9114473537983693240 : Nat := 0
noncomputable def head.tw7688317290187622652 : Nat := 0
noncomputable def head.tw17265401458761052179 : Nat := 0
noncomputable def head.tw17988201657351507238 : Nat := 0
noncomputable def head.tw9464831228461672588 : Nat := 0
noncomputable def head.tw12024539317367501503 : Nat := 0
noncomputable def head.tw10786079294511566085 : Nat := 0
noncomputable def head.tw10021064610941686981 : Nat := 0
noncomputable def head.tw11484358847640170188 : Nat := 0
noncomputable def head.tw820421773197932041 : Nat := 0
noncomputable def head.tw4277651752456152607 : Nat := 0
noncomputable def head.tw2728595385866086531 : Nat := 0
noncomputable def head.tw466721876749952763 : Nat := 0
noncomputable def head.tw6871339299614917876 : Nat := 0
noncomputable def head.tw10668533816033670360 : Nat := 0
noncomputable def head.tw15785421084128741142 : Nat := 0
noncomputable def head.tw15253846138512369154 : Nat := 0
noncomputable def head.tw1620002657737552111 : Nat := 0
noncomputable def head.tw1626232751844553403 : Nat := 0
noncomputable def head.tw4381510469713062047 : Nat := 0
noncomputable def head.tw2355103038987944067 : Nat := 0
noncomputable def head.tw8912104118211102971 : Nat := 0
noncomputable def head.tw3356082689604606797 : Nat := 0
noncomputable def head.tw16782820856776367440 : Nat := 0
noncomputable def head.tw16800043278716471037 : Nat := 0
noncomputable def head.tw14744981736328886265 : Nat := 0
noncomputable def head.tw17093656651364094606 : Nat := 0
noncomputable def head.tw7994106446794305319 : Nat := 0
noncomputable def head.tw13246386896891170512 : Nat := 0
noncomputable def head.tw10258521583956687137 : Nat := 0
noncomputable def head.tw11296743742662292762 : Nat := 0
noncomputable def head.tw5019597260055213698 : Nat := 0
noncomputable def head.tw8185714761375850791 : Nat := 0
noncomputable def head.tw6594077403890362655 : Nat := 0
noncomputable def head.tw17453365369857097546 : Nat := 0
noncomputable def head.tw11105056867450500199 : Nat := 0
noncomputable def head.tw14667470093908496907 : Nat := 0
noncomputable def head.tw12604462930493870256 : Nat := 0
noncomputable def head.tw1689142752476645926 : Nat := 0
noncomputable def head.tw5764021196749891206 : Nat := 0
noncomputable def head.tw6388477656530123435 : Nat := 0
noncomputable def head.tw9407594320385231609 : Nat := 0
noncomputable def head.tw930087139818521243 : Nat := 0
noncomputable def head.tw6880043348581005364 : Nat := 0
noncomputable def head.tw6161856959107265637 : Nat := 0
noncomputable def head.tw3991279037241028524 : Nat := 0
noncomputable def head.tw315434073420411817 : Nat := 0
noncomputable def head.tw10510622979536455646 : Nat := 0
noncomputable def head.tw8895791426145780158 : Nat := 0
noncomputable def head.tw10431609616501453582 : Nat := 0
noncomputable def head.tw11308087075614649832 : Nat := 0
noncomputable def head.tw9082462177598256812 : Nat := 0
noncomputable def head.tw3581614266968435656 : Nat := 0
noncomputable def head.tw15894371620910866019 : Nat := 0
noncomputable def head.tw3665506230870052707 : Nat := 0
noncomputable def head.tw3547030090768783262 : Nat := 0
noncomputable def head.tw10059252607514160932 : Nat := 0
noncomputable def head.tw12478146576626367362 : Nat := 0
noncomputable def head.tw7928285938522686346 : Nat := 0
noncomputable def head.tw9716329373054682134 : Nat := 0
noncomputable def head.tw2340069552987342377 : Nat := 0
noncomputable def head.tw8476099583838051002 : Nat := 0
noncomputable def head.tw3453547403478019728 : Nat := 0
noncomputable def head.tw8159583801465064534 : Nat := 0
noncomputable def head.tw48543519692965452 : Nat := 0
noncomputable def head.tw15539854500240908086 : Nat := 0
noncomputable def head.tw976808484645153763 : Nat := 0
noncomputable def head.tw6088685845774392931 : Nat := 0
noncomputable def head.tw10519217271611395807 : Nat := 0
noncomputable def head.tw15326552575505426906 : Nat := 0
noncomputable def head.tw7417405269818204032 : Nat := 0
noncomputable def head.tw8534208459206503383 : Nat := 0
noncomputable def head.tw6836605351468522007 : Nat := 0
noncomputable def head.tw851385035628625539 : Nat := 0
noncomputable def head.tw5638995163158488052 : Nat := 0
noncomputable def head.tw1212124681294104184 : Nat := 0
noncomputable def head.tw17197444120159719569 : Nat := 0
noncomputable def head.tw1832916270232011604 : Nat := 0
noncomputable def head.tw12147184966966947637 : Nat := 0
noncomputable def head.tw533756555076263647 : Nat := 0
noncomputable def head.tw17789423225533864492 : Nat := 0
noncomputable def head.tw2518057956044344595 : Nat := 0
noncomputable def head.tw8715499118904818895 : Nat := 0
noncomputable def head.tw10533634037010066435 : Nat := 0
noncomputable def head.tw3089916443595474862 : Nat := 0
noncomputable def head.tw14982685227137828758 : Nat := 0
noncomputable def head.tw4009957668330374740 : Nat := 0
noncomputable def head.tw12043669396524033845 : Nat := 0
noncomputable def head.tw17905491414393134947 : Nat := 0
noncomputable def head.tw18332285231265401824 : Nat := 0
noncomputable def head.tw1276956409769668328 : Nat := 0
noncomputable def head.tw5723944856813171866 : Nat := 0
noncomputable def head.tw13180129090757240718 : Nat := 0
noncomputable def head.tw13585267454733459922 : Nat := 0
noncomputable def head.tw3103639331685909893 : Nat := 0
noncomputable def head.tw8035625575855466936 : Nat := 0
noncomputable def head.tw1463646239528298992 : Nat := 0
noncomputable def head.tw16111715859725283846 : Nat := 0
noncomputable def head.tw17014734716931888790 : Nat := 0
noncomputable def head.tw10015159338476511836 : Nat := 0
noncomputable def head.tw5140934472235413692 : Nat := 0
noncomputable def head.tw9074772780463953568 : Nat := 0
noncomputable def head.tw17844492200522320778 : Nat := 0
noncomputable def head.tw3083302935323014018 : Nat := 0
noncomputable def head.tw17332727794074296334 : Nat := 0
noncomputable def head.tw742351954350328859 : Nat := 0
noncomputable def head.tw1852205218256702202 : Nat := 0
noncomputable def head.tw2994366008111725845 : Nat := 0
noncomputable def head.tw2491421050496283774 : Nat := 0
noncomputable def head.tw14512941343882779238 : Nat := 0
noncomputable def head.tw4528443807372415038 : Nat := 0
noncomputable def head.tw12865059321931465230 : Nat := 0
set_option Elab.async true
set_option maxRecDepth 100000 in
set_option maxHeartbeats 8000000 in
theorem head : PySem.Challenge.rw_on0296_01.Holds := by
  (w_on; o_law; k_head; (case hw => w_witness2); w_strict (
    k_go0
    rename Glob _ _ _ _ _ _ _ _ => GL
    rename Frag.In _ _ => KX
    rename Fr _ _ _ _ => kF
    rename Well _ _ _ _ => wl
    rename (¬ _ < _) => hcond
    rename (Shared.gens _ = _) => hgens
    refine Mine.law_join (⟨by kernel_rfl, by kernel_rfl, by kernel_rfl, by kernel_rfl, by kernel_rfl, by kernel_rfl, by kernel_rfl, by kernel_rfl, by kernel_rfl, by kernel_rfl, by kernel_rfl⟩) KX GL.g GL.b GL.builtins GL.nolimit kF (by rfl) wl (by omega) (Mine.room5 _) (by kernel_rfl) rfl rfl rfl rfl ?_
    intro h' tk keep
    refine ⟨.inl ⟨.bool true, .bool true, [], rfl, fun cls => rfl, .bool _, ?_, fun _ => ⟨.nil, fun a h => nomatch h⟩⟩, keep, rfl, hgens⟩
    exact Mine.holdsT _ _ _))
end Mine
theorem PySem.Challenge.cw_on0296_01_holds : PySem.Challenge.rw_on0296_01.Holds := by
  exact Mine.head
