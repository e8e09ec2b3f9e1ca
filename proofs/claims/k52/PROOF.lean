import PyProof.Rows.All
import HandS.ForMost
import HandS.Deep
import HandS.IsInst
import HandS.Conv
import HandS.TupAny
import HandS.SortInts
import PyProof.StrOps2
import KE.KSortedAny
import HandS.More
import HandS.Strs
import HandS.Zip
import KE.GoesEnum
import HandS.SetTxt0
import HandS.SetBool
import HandS.SetFor
import HandS.SortOrd
import HandS.Style
import HandS.EndBits
import PySem.Challenge.RW_broughtacross_k52_judge_of_lines_of_ties
set_option Elab.async false
set_option linter.all false
set_option maxRecDepth 100000
set_option autoImplicit false
/-! QA: values as trees, frames, what a step keeps -/
namespace QL
open PySem L2
abbrev Sg := List (Option V)

/-- a value as a tree -/
inductive D where
  | non | bl (b : Bool) | int (i : Int) | str (x : Str)
  | tup (xs : List D) | lst (xs : List D) | frl (xs : List D)
  | dct (ks vs : List D) | set (xs : List D)
instance : Inhabited D := ⟨.non⟩

/-- a list that is locked (the script): tracked and in F, or of the written part -/
def FzL (K : PySem.W.Frag) (H : Hp) (F : Addr → Prop) (a : Addr) (xs : List V) : Prop :=
  (F a ∧ Rd H a (.lst xs)) ∨
    ∃ (o : Obj) (us : Array Value) (n : Nat), K.lookup a = some o ∧ o.cls = .type "list" ∧ o.dict = none ∧ o.data = .seq us n ∧ us.size ≤ sizeLine ∧ Vals xs us.toList
def FzT (K : PySem.W.Frag) (H : Hp) (F : Addr → Prop) (a : Addr) (xs : List V) : Prop :=
  (F a ∧ ∃ o : Obj, o.dict = none ∧ H a = some (.frz o (.tup xs))) ∨
    ∃ (o : Obj) (us : Array Value) (n : Nat), o.dict = none ∧ K.lookup a = some o ∧ o.cls = .type "tuple" ∧ o.data = .seq us n ∧ us.size ≤ sizeLine ∧ Vals xs us.toList
theorem FzL.sq {K H F a xs} (h : FzL K H F a xs) : SqL K H a xs := h.elim (fun z => .inl z.2) .inr
theorem FzT.sq {K H F a xs} (h : FzT K H F a xs) : SqT K H a xs := h.elim (fun ⟨_, o, _, z⟩ => .inl (.inr ⟨o, z⟩)) fun ⟨o, us, n, _, z⟩ => .inr ⟨o, us, n, z⟩

mutual
/-- the value v stands for d: nothing of it is ever changed again -/
inductive Rep (K : PySem.W.Frag) (H : Hp) (F : Addr → Prop) : V → D → Prop
  | non : Rep K H F .non .non
  | bl (b : Bool) : Rep K H F (.bl b) (.bl b)
  | int (i : Int) : Rep K H F (.int i) (.int i)
  | str (x : Str) : PyData.strOk x = true → x.length ≤ sizeLine → Rep K H F (.str x) (.str x)
  | tup {a : Addr} {xs : List V} {ds : List D} : FzT K H F a xs → RepL K H F xs ds → Rep K H F (.ref a) (.tup ds)
  | lst {a : Addr} {xs : List V} {ds : List D} : F a → H a = some (.lst xs) → RepL K H F xs ds → Rep K H F (.ref a) (.lst ds)
  | frl {a : Addr} {xs : List V} {ds : List D} : FzL K H F a xs → RepL K H F xs ds → Rep K H F (.ref a) (.frl ds)
  | dct {a : Addr} {kvs : List (Key × V)} {ks vs : List D} : F a → H a = some (.dK kvs) → RepL K H F (kvs.map fun p => kV p.1) ks → RepL K H F (kvs.map fun p => p.2) vs → Rep K H F (.ref a) (.dct ks vs)
inductive RepL (K : PySem.W.Frag) (H : Hp) (F : Addr → Prop) : List V → List D → Prop
  | nil : RepL K H F [] []
  | cons {v : V} {vs : List V} {d : D} {ds : List D} : Rep K H F v d → RepL K H F vs ds → RepL K H F (v :: vs) (d :: ds)
end

section
variable {K : PySem.W.Frag} {H H' : Hp} {F F' : Addr → Prop}
theorem FzL.mono (hF : ∀ a, F a → F' a) (hH : ∀ a, F a → H' a = H a) {a xs} (h : FzL K H F a xs) : FzL K H' F' a xs := by
  rcases h with ⟨f, r⟩ | h
  · refine .inl ⟨hF a f, ?_⟩
    unfold Rd
    rw [hH a f]
    exact r
  · exact .inr h
theorem FzT.mono (hF : ∀ a, F a → F' a) (hH : ∀ a, F a → H' a = H a) {a xs} (h : FzT K H F a xs) : FzT K H' F' a xs := by
  rcases h with ⟨f, o, e, r⟩ | h
  · exact .inl ⟨hF a f, o, e, (hH a f).trans r⟩
  · exact .inr h
mutual
theorem Rep.mono (hF : ∀ a, F a → F' a) (hH : ∀ a, F a → H' a = H a) : ∀ {v : V} {d : D}, Rep K H F v d → Rep K H' F' v d
  | _, _, .non => .non
  | _, _, .bl b => .bl b
  | _, _, .int i => .int i
  | _, _, .str x h l => .str x h l
  | _, _, .tup h r => .tup (h.mono hF hH) (RepL.mono hF hH r)
  | _, _, .lst f h r => .lst (hF _ f) ((hH _ f).trans h) (RepL.mono hF hH r)
  | _, _, .frl h r => .frl (h.mono hF hH) (RepL.mono hF hH r)
  | _, _, .dct f h r s => .dct (hF _ f) ((hH _ f).trans h) (RepL.mono hF hH r) (RepL.mono hF hH s)
theorem RepL.mono (hF : ∀ a, F a → F' a) (hH : ∀ a, F a → H' a = H a) : ∀ {v : List V} {d : List D}, RepL K H F v d → RepL K H' F' v d
  | _, _, .nil => .nil
  | _, _, .cons h r => .cons (Rep.mono hF hH h) (RepL.mono hF hH r)
end
theorem RepL.length : ∀ {v : List V} {d : List D}, RepL K H F v d → v.length = d.length
  | _, _, .nil => rfl
  | _, _, .cons _ r => by simp [RepL.length r]
theorem RepL.get : ∀ {v : List V} {d : List D} {i : Nat} {x : V}, RepL K H F v d → v[i]? = some x → ∃ y, d[i]? = some y ∧ Rep K H F x y
  | _, _, 0, _, .cons h _, e => by simp at e; subst e; exact ⟨_, rfl, h⟩
  | _, _, i + 1, _, .cons _ r, e => by
    obtain ⟨y, e1, e2⟩ := RepL.get (i := i) r (by simpa using e)
    exact ⟨y, by simpa using e1, e2⟩
theorem RepL.get' : ∀ {v : List V} {d : List D} {i : Nat} {y : D}, RepL K H F v d → d[i]? = some y → ∃ x, v[i]? = some x ∧ Rep K H F x y
  | _, _, 0, _, .cons h _, e => by simp at e; subst e; exact ⟨_, rfl, h⟩
  | _, _, i + 1, _, .cons _ r, e => by
    obtain ⟨y, e1, e2⟩ := RepL.get' (i := i) r (by simpa using e)
    exact ⟨y, by simpa using e1, e2⟩
theorem RepL.append : ∀ {v w : List V} {d e : List D}, RepL K H F v d → RepL K H F w e → RepL K H F (v ++ w) (d ++ e)
  | _, _, _, _, .nil, s => s
  | _, _, _, _, .cons h r, s => .cons h (RepL.append r s)
theorem RepL.drop : ∀ {v : List V} {d : List D} (n : Nat), RepL K H F v d → RepL K H F (v.drop n) (d.drop n)
  | _, _, 0, r => r
  | _, _, _ + 1, .nil => .nil
  | _, _, n + 1, .cons _ r => RepL.drop n r
theorem RepL.take : ∀ {v : List V} {d : List D} (n : Nat), RepL K H F v d → RepL K H F (v.take n) (d.take n)
  | _, _, 0, _ => .nil
  | _, _, _ + 1, .nil => .nil
  | _, _, n + 1, .cons h r => .cons h (RepL.take n r)
theorem RepL.reverse {v : List V} {d : List D} (h : RepL K H F v d) : RepL K H F v.reverse d.reverse := by
  induction h using RepL.rec (motive_1 := fun _ _ _ => True) with
  | non => trivial
  | bl => trivial
  | int => trivial
  | str => trivial
  | tup => trivial
  | lst => trivial
  | frl => trivial
  | dct => trivial
  | nil => exact .nil
  | cons h r _ ih => rw [List.reverse_cons, List.reverse_cons]; exact RepL.append ih (.cons h .nil)
theorem RepL.set : ∀ {v : List V} {d : List D} (n : Nat) {x : V} {y : D}, RepL K H F v d → Rep K H F x y → RepL K H F (v.set n x) (d.set n y)
  | _, _, _, _, _, .nil, _ => .nil
  | _, _, 0, _, _, .cons _ r, h => .cons h r
  | _, _, n + 1, _, _, .cons h r, h2 => .cons h (RepL.set n r h2)
theorem RepL.of_get : ∀ {v : List V} {d : List D}, v.length = d.length → (∀ (i : Nat) (x : V) (y : D), v[i]? = some x → d[i]? = some y → Rep K H F x y) → RepL K H F v d
  | [], [], _, _ => .nil
  | x :: v, y :: d, hl, h => .cons (h 0 x y rfl rfl) (RepL.of_get (by simpa using hl) fun i a b e1 e2 => h (i + 1) a b (by simpa using e1) (by simpa using e2))
  | [], _ :: _, hlen, _ => by simp at hlen
  | _ :: _, [], hlen, _ => by simp at hlen
end

/-- what stands at an address that is owned -/
def OwnRel (K : PySem.W.Frag) (H : Hp) (F : Addr → Prop) (a : Addr) : D → Prop
  | .lst ds => ∃ xs, H a = some (.lst xs) ∧ RepL K H F xs ds
  | .dct ks vs => ∃ kvs, H a = some (.dK kvs) ∧ RepL K H F (kvs.map fun p => kV p.1) ks ∧ RepL K H F (kvs.map fun p => p.2) vs
  | _ => False
theorem OwnRel.some {K H F a d} (h : OwnRel K H F a d) : H a ≠ none := by
  cases d <;> first | exact h.elim | skip
  · obtain ⟨_, e, _⟩ := h; rw [e]; simp
  · obtain ⟨_, e, _⟩ := h; rw [e]; simp
theorem OwnRel.mono {K : PySem.W.Frag} {H H' : Hp} {F F' : Addr → Prop} (hF : ∀ a, F a → F' a) (hH : ∀ a, F a → H' a = H a) {a d} (e : H' a = H a) (h : OwnRel K H F a d) : OwnRel K H' F' a d := by
  cases d <;> first | exact h.elim | skip
  · obtain ⟨xs, e1, r⟩ := h; exact ⟨xs, e.trans e1, r.mono hF hH⟩
  · obtain ⟨xs, e1, r, s⟩ := h; exact ⟨xs, e.trans e1, r.mono hF hH, s.mono hF hH⟩
/-- what is owned is frozen -/
theorem OwnRel.freeze {K : PySem.W.Frag} {H : Hp} {F F' : Addr → Prop} {a d} (h : OwnRel K H F a d) (hF : ∀ a, F a → F' a) (ha : F' a) : Rep K H F' (.ref a) d := by
  cases d <;> first | exact h.elim | skip
  · obtain ⟨xs, e1, r⟩ := h; exact .lst ha e1 (r.mono hF fun _ _ => rfl)
  · obtain ⟨xs, e1, r, s⟩ := h; exact .dct ha e1 (r.mono hF fun _ _ => rfl) (s.mono hF fun _ _ => rfl)

/-- a slot of a frame: nothing known; a frozen value; an object of its own (b: lent by the caller) -/
inductive Sl where
  | none | val (d : D) | own (b : Bool) (d : D)
instance : Inhabited Sl := ⟨.none⟩
abbrev Fr := List Sl

def Own (fr : Fr) (σ : Sg) (a : Addr) : Prop := ∃ (i : Nat) (b : Bool) (d : D), fr[i]? = some (.own b d) ∧ σ[i]? = some (some (.ref a))
def OwnF (fr : Fr) (σ : Sg) (a : Addr) : Prop := ∃ (i : Nat) (d : D), fr[i]? = some (.own false d) ∧ σ[i]? = some (some (.ref a))
theorem OwnF.own {fr σ a} (h : OwnF fr σ a) : Own fr σ a := let ⟨i, d, h⟩ := h; ⟨i, false, d, h⟩

structure FrOk (K : PySem.W.Frag) (H : Hp) (F : Addr → Prop) (σ : Sg) (fr : Fr) : Prop where
  fh : ∀ a, F a → H a ≠ none
  val : ∀ (i : Nat) (d : D), fr[i]? = some (.val d) → ∃ v, σ[i]? = some (some v) ∧ Rep K H F v d
  own : ∀ (i : Nat) (b : Bool) (d : D), fr[i]? = some (.own b d) → ∃ a, σ[i]? = some (some (.ref a)) ∧ ¬ F a ∧ OwnRel K H F a d
  inj : ∀ (i j : Nat) (a : Addr) (b c : Bool) (d e : D), fr[i]? = some (.own b d) → fr[j]? = some (.own c e) → σ[i]? = some (some (.ref a)) → σ[j]? = some (some (.ref a)) → i = j
  len : fr.length = σ.length

section
variable {K : PySem.W.Frag} {H H' H2 : Hp} {F F' F2 : Addr → Prop} {σ : Sg} {fr fr' fr2 : Fr} {a : Addr}
theorem FrOk.nf (h : FrOk K H F σ fr) (o : Own fr σ a) : ¬ F a := by
  obtain ⟨i, b, d, e1, e2⟩ := o
  obtain ⟨a', e3, nf, _⟩ := h.own i b d e1
  rw [e2] at e3; cases e3
  exact nf
theorem FrOk.there (h : FrOk K H F σ fr) (o : Own fr σ a) : H a ≠ none := by
  obtain ⟨i, b, d, e1, e2⟩ := o
  obtain ⟨a', e3, nf, r⟩ := h.own i b d e1
  rw [e2] at e3; cases e3
  exact r.some
/-- what an expression does -/
structure Stp (K : PySem.W.Frag) (σ : Sg) (fr : Fr) (F : Addr → Prop) (H : Hp) (fr' : Fr) (F' : Addr → Prop) (H' : Hp) : Prop where
  ok : FrOk K H' F' σ fr'
  le : ∀ a, F a → F' a
  new : ∀ a, F' a → F a ∨ H a = none ∨ OwnF fr σ a
  keep : ∀ a, H a ≠ none → ¬ Own fr σ a → H' a = H a
  alive : ∀ a, H a ≠ none → H' a ≠ none
  sub : ∀ (i : Nat) (b : Bool) (d : D), fr'[i]? = some (.own b d) → ∃ d0, fr[i]? = some (.own b d0)
  bor : ∀ (i : Nat) (d : D), fr[i]? = some (.own true d) → ∃ d', fr'[i]? = some (.own true d')
  live : ∀ (i : Nat) (s : Sl), fr[i]? = some s → s ≠ .none → ∃ s', fr'[i]? = some s' ∧ s' ≠ .none
theorem Stp.subO (s : Stp K σ fr F H fr' F' H') (o : Own fr' σ a) : Own fr σ a := by
  obtain ⟨i, b, d, e1, e2⟩ := o
  obtain ⟨d0, e⟩ := s.sub i b d e1
  exact ⟨i, b, d0, e, e2⟩
theorem Stp.subF (s : Stp K σ fr F H fr' F' H') (o : OwnF fr' σ a) : OwnF fr σ a := by
  obtain ⟨i, d, e1, e2⟩ := o
  obtain ⟨d0, e⟩ := s.sub i false d e1
  exact ⟨i, d0, e, e2⟩
theorem Stp.fkeep (h : FrOk K H F σ fr) (s : Stp K σ fr F H fr' F' H') : ∀ a, F a → H' a = H a := fun a f => s.keep a (h.fh a f) fun o => h.nf o f
theorem Stp.refl (h : FrOk K H F σ fr) : Stp K σ fr F H fr F H :=
  ⟨h, fun _ z => z, fun _ z => .inl z, fun _ _ _ => rfl, fun _ z => z, fun i b d e => ⟨d, e⟩, fun i d e => ⟨d, e⟩, fun i s e n => ⟨s, e, n⟩⟩
theorem Stp.trans (h : FrOk K H F σ fr) (s : Stp K σ fr F H fr' F' H') (t : Stp K σ fr' F' H' fr2 F2 H2) : Stp K σ fr F H fr2 F2 H2 where
  ok := t.ok
  le := fun a z => t.le a (s.le a z)
  new := fun a z => by
    rcases t.new a z with z | z | z
    · exact s.new a z
    · refine .inr (.inl ?_)
      cases q : H a with
      | none => rfl
      | some o => exact absurd z (s.alive a (by rw [q]; simp))
    · exact .inr (.inr (s.subF z))
  keep := fun a z n => by
    rw [t.keep a (s.alive a z) fun o => n (s.subO o), s.keep a z n]
  alive := fun a z => t.alive a (s.alive a z)
  sub := fun i b d e => by
    obtain ⟨d1, e1⟩ := t.sub i b d e
    exact s.sub i b d1 e1
  bor := fun i d e => by
    obtain ⟨d1, e1⟩ := s.bor i d e
    exact t.bor i d1 e1
  live := fun i x e n => by
    obtain ⟨d1, e1, n1⟩ := s.live i x e n
    exact t.live i d1 e1 n1
/-- a new object is laid -/
theorem FrOk.laid (h : FrOk K H F σ fr) {p : Addr} {o : HO} (hp : H p = none) : FrOk K (upd H p o) F σ fr := by
  have hH : ∀ a, F a → (upd H p o) a = H a := fun a f => upd_ne fun e => h.fh a f (e ▸ hp)
  refine ⟨fun a f => by rw [hH a f]; exact h.fh a f, fun i d e => ?_, fun i b d e => ?_, h.inj, h.len⟩
  · obtain ⟨v, e1, r⟩ := h.val i d e
    exact ⟨v, e1, r.mono (fun _ z => z) hH⟩
  · obtain ⟨a, e1, nf, r⟩ := h.own i b d e
    exact ⟨a, e1, nf, r.mono (fun _ z => z) hH (upd_ne fun z => r.some (z ▸ hp))⟩
theorem Stp.laid (h : FrOk K H F σ fr) {p : Addr} {o : HO} (hp : H p = none) : Stp K σ fr F H fr F (upd H p o) where
  ok := h.laid hp
  le := fun _ z => z
  new := fun _ z => .inl z
  keep := fun a z _ => upd_ne fun e => z (e ▸ hp)
  alive := fun a z => by rw [upd_ne (show a ≠ p from fun e => z (e ▸ hp))]; exact z
  sub := fun i b d e => ⟨d, e⟩
  bor := fun i d e => ⟨d, e⟩
  live := fun i s e n => ⟨s, e, n⟩
/-- new addresses are frozen -/
theorem FrOk.freezeNew (h : FrOk K H F σ fr) {p : Addr} (hp : H p ≠ none) (hn : ¬ Own fr σ p) : FrOk K H (fun a => F a ∨ a = p) σ fr := by
  refine ⟨fun a f => ?_, fun i d e => ?_, fun i b d e => ?_, h.inj, h.len⟩
  · rcases f with f | rfl
    · exact h.fh a f
    · exact hp
  · obtain ⟨v, e1, r⟩ := h.val i d e
    exact ⟨v, e1, r.mono (fun _ z => .inl z) fun _ _ => rfl⟩
  · obtain ⟨a, e1, nf, r⟩ := h.own i b d e
    refine ⟨a, e1, fun z => ?_, r.mono (fun _ z => .inl z) (fun _ _ => rfl) rfl⟩
    rcases z with z | rfl
    · exact nf z
    · exact hn ⟨i, b, d, e, e1⟩
/-- a new frozen object -/
theorem Stp.laidFz (h : FrOk K H F σ fr) {p : Addr} {o : HO} (hp : H p = none) : Stp K σ fr F H fr (fun a => F a ∨ a = p) (upd H p o) where
  ok := (h.laid hp).freezeNew (by rw [upd_same]; simp) fun z => (h.there z) hp
  le := fun _ z => .inl z
  new := fun a z => by
    rcases z with z | rfl
    · exact .inl z
    · exact .inr (.inl hp)
  keep := fun a z _ => upd_ne fun e => z (e ▸ hp)
  alive := fun a z => by rw [upd_ne (show a ≠ p from fun e => z (e ▸ hp))]; exact z
  sub := fun i b d e => ⟨d, e⟩
  bor := fun i d e => ⟨d, e⟩
  live := fun i s e n => ⟨s, e, n⟩
end

/-- what an expression gives: a frozen value, a new object of its own, an object that a slot owns -/
inductive Rf where
  | val (d : D) | tmp (d : D) | bor (i : Nat)
def RfOk (K : PySem.W.Frag) (σ : Sg) (fr : Fr) (H : Hp) (F : Addr → Prop) (v : V) : Rf → Prop
  | .val d => Rep K H F v d
  | .tmp d => ∃ a, v = .ref a ∧ ¬ F a ∧ ¬ Own fr σ a ∧ OwnRel K H F a d
  | .bor i => σ[i]? = some (some v) ∧ ∃ s, fr[i]? = some s ∧ s ≠ .none
/-- a temporary is new since H -/
def RfNew (H : Hp) (v : V) : Rf → Prop
  | .tmp _ => ∀ a, v = .ref a → H a = none
  | _ => True
section
variable {K : PySem.W.Frag} {H H' H2 : Hp} {F F' F2 : Addr → Prop} {σ : Sg} {fr fr' fr2 : Fr} {a : Addr} {v : V} {r : Rf}
theorem RfOk.step (h : FrOk K H F σ fr) (s : Stp K σ fr F H fr' F' H') (x : RfOk K σ fr H F v r) : RfOk K σ fr' H' F' v r := by
  cases r with
  | val d => exact Rep.mono s.le (s.fkeep h) x
  | tmp d =>
    obtain ⟨a, e, nf, no, r⟩ := x
    refine ⟨a, e, fun z => ?_, fun o => no (s.subO o), r.mono s.le (s.fkeep h) (s.keep a r.some no)⟩
    rcases s.new a z with z | z | z
    · exact nf z
    · exact r.some z
    · exact no z.own
  | bor i =>
    obtain ⟨e, s0, e1, n⟩ := x
    obtain ⟨s1, e2, n2⟩ := s.live i s0 e1 n
    exact ⟨e, s1, e2, n2⟩
theorem RfNew.back (s : Stp K σ fr F H fr' F' H') (x : RfNew H' v r) : RfNew H v r := by
  cases r with
  | val d => trivial
  | bor i => trivial
  | tmp d =>
    intro a e
    cases q : H a with
    | none => rfl
    | some o => exact absurd (x a e) (s.alive a (by rw [q]; simp))

/-- the value that a reference stands for now -/
def deref (fr : Fr) : Rf → Option D
  | .val d => some d
  | .tmp d => some d
  | .bor i => match fr[i]? with
    | some (.own _ d) => some d
    | some (.val d) => some d
    | _ => none
/-- v stands for d now -/
def Now (K : PySem.W.Frag) (H : Hp) (F : Addr → Prop) (v : V) (d : D) : Prop := Rep K H F v d ∨ ∃ a, v = .ref a ∧ OwnRel K H F a d
theorem RfOk.now (h : FrOk K H F σ fr) (x : RfOk K σ fr H F v r) {d : D} (e : deref fr r = some d) : Now K H F v d := by
  cases r with
  | val d' => cases e; exact .inl x
  | tmp d' =>
    cases e
    obtain ⟨a, e, _, _, r⟩ := x
    exact .inr ⟨a, e, r⟩
  | bor i =>
    obtain ⟨e1, s, e2, n⟩ := x
    simp only [deref, e2] at e
    cases s with
    | none => exact absurd rfl n
    | val d' =>
      cases e
      obtain ⟨v', e3, r⟩ := h.val i d e2
      rw [e1] at e3; cases e3
      exact .inl r
    | own b d' =>
      cases e
      obtain ⟨a, e3, _, r⟩ := h.own i b d e2
      rw [e1] at e3; cases e3
      exact .inr ⟨a, rfl, r⟩
/-- a list: read now -/
theorem Now.lst {ds : List D} (h : Now K H F v (.lst ds)) : ∃ a xs, v = .ref a ∧ H a = some (.lst xs) ∧ RepL K H F xs ds := by
  rcases h with h | ⟨a, e, xs, e1, r⟩
  · cases h with
    | lst f h r => exact ⟨_, _, rfl, h, r⟩
  · exact ⟨a, xs, e, e1, r⟩
theorem Now.frl {ds : List D} (h : Now K H F v (.frl ds)) : ∃ a xs, v = .ref a ∧ SqL K H a xs ∧ RepL K H F xs ds := by
  rcases h with h | ⟨a, e, h⟩
  · cases h with
    | frl h r => exact ⟨_, _, rfl, h.sq, r⟩
  · exact h.elim
theorem Now.tup {ds : List D} (h : Now K H F v (.tup ds)) : ∃ a xs, v = .ref a ∧ SqT K H a xs ∧ RepL K H F xs ds := by
  rcases h with h | ⟨a, e, h⟩
  · cases h with
    | tup h r => exact ⟨_, _, rfl, h.sq, r⟩
  · exact h.elim
theorem Now.fzt {ds : List D} (h : Now K H F v (.tup ds)) : ∃ a xs, v = .ref a ∧ FzT K H F a xs ∧ RepL K H F xs ds := by
  rcases h with h | ⟨a, e, h⟩
  · cases h with
    | tup h r => exact ⟨_, _, rfl, h, r⟩
  · exact h.elim
theorem Now.int {i : Int} (h : Now K H F v (.int i)) : v = .int i := by
  rcases h with h | ⟨a, e, h⟩
  · cases h; rfl
  · exact h.elim
theorem Now.bl {i : Bool} (h : Now K H F v (.bl i)) : v = .bl i := by
  rcases h with h | ⟨a, e, h⟩
  · cases h; rfl
  · exact h.elim
theorem Now.non (h : Now K H F v .non) : v = .non := by
  rcases h with h | ⟨a, e, h⟩
  · cases h; rfl
  · exact h.elim
theorem Now.str {i : Str} (h : Now K H F v (.str i)) : v = .str i ∧ PyData.strOk i = true ∧ i.length ≤ sizeLine := by
  rcases h with h | ⟨a, e, h⟩
  · cases h with | str _ h1 h2 => exact ⟨rfl, h1, h2⟩
  · exact h.elim
theorem Now.dct {ks vs : List D} (h : Now K H F v (.dct ks vs)) : ∃ a kvs, v = .ref a ∧ H a = some (.dK kvs) ∧ RepL K H F (kvs.map fun p => kV p.1) ks ∧ RepL K H F (kvs.map fun p => p.2) vs := by
  rcases h with h | ⟨a, e, xs, e1, r, s⟩
  · cases h with
    | dct f h r s => exact ⟨_, _, rfl, h, r, s⟩
  · exact ⟨a, xs, e, e1, r, s⟩
/-- a reference is frozen -/
def frz (fr : Fr) : Rf → Option (D × Fr)
  | .val d => some (d, fr)
  | .tmp d => some (d, fr)
  | .bor i => match fr[i]? with
    | some (.own false d) => some (d, fr.set i (.val d))
    | some (.val d) => some (d, fr)
    | _ => none
theorem get_set_ne {fr : Fr} {i j : Nat} {s : Sl} (h : i ≠ j) : (fr.set i s)[j]? = fr[j]? := List.getElem?_set_ne h
/-- a slot's own object is frozen -/
theorem Stp.freezeSlot (h : FrOk K H F σ fr) {i : Nat} {d : D} (e : fr[i]? = some (.own false d)) {v : V} (ev : σ[i]? = some (some v)) : ∃ F', Stp K σ fr F H (fr.set i (.val d)) F' H ∧ Rep K H F' v d := by
  obtain ⟨a, e1, nf, r⟩ := h.own i false d e
  rw [ev] at e1; cases e1
  have hi : i < fr.length := (List.getElem?_eq_some_iff.mp e).1
  refine ⟨fun b => F b ∨ b = a, ⟨⟨fun b f => ?_, fun j d' e' => ?_, fun j b d' e' => ?_, fun j k b c1 c2 d1 d2 e1 e2 => ?_, by rw [List.length_set]; exact h.len⟩, fun _ z => .inl z, fun b z => ?_, fun _ _ _ => rfl, fun _ z => z, fun j b d' e' => ?_, fun j d' e' => ?_, fun j s e' n => ?_⟩, r.freeze (fun _ z => .inl z) (.inr rfl)⟩
  · rcases f with f | rfl
    · exact h.fh b f
    · exact r.some
  · by_cases hj : i = j
    · subst hj
      rw [List.getElem?_set_self hi] at e'
      cases e'
      exact ⟨_, ev, r.freeze (fun _ z => .inl z) (.inr rfl)⟩
    · rw [get_set_ne hj] at e'
      obtain ⟨v, e1, r1⟩ := h.val j d' e'
      exact ⟨v, e1, r1.mono (fun _ z => .inl z) fun _ _ => rfl⟩
  · by_cases hj : i = j
    · subst hj
      rw [List.getElem?_set_self hi] at e'
      cases e'
    · rw [get_set_ne hj] at e'
      obtain ⟨a', e1, nf', r1⟩ := h.own j b d' e'
      refine ⟨a', e1, fun z => ?_, r1.mono (fun _ z => .inl z) (fun _ _ => rfl) rfl⟩
      rcases z with z | rfl
      · exact nf' z
      · exact hj (h.inj i j a' _ _ _ _ e e' ev e1)
  · have o : ∀ {j : Nat} {b : Bool} {d' : D}, (fr.set i (.val d))[j]? = some (.own b d') → fr[j]? = some (.own b d') := fun {j b d'} e' => by
      by_cases hj : i = j
      · subst hj
        rw [List.getElem?_set_self hi] at e'
        cases e'
      · rw [get_set_ne hj] at e'
        exact e'
    exact h.inj j k b c1 c2 d1 d2 (o e1) (o e2)
  · rcases z with z | rfl
    · exact .inl z
    · exact .inr (.inr ⟨i, d, e, ev⟩)
  · by_cases hj : i = j
    · subst hj
      rw [List.getElem?_set_self hi] at e'
      cases e'
    · rw [get_set_ne hj] at e'
      exact ⟨d', e'⟩
  · have hj : i ≠ j := fun z => by subst z; rw [e] at e'; cases e'
    exact ⟨d', by rw [get_set_ne hj]; exact e'⟩
  · by_cases hj : i = j
    · subst hj
      exact ⟨_, List.getElem?_set_self hi, fun z => by cases z⟩
    · exact ⟨s, by rw [get_set_ne hj]; exact e', n⟩
theorem Stp.freezeTmp {fr0 : Fr} {F0 : Addr → Prop} {H0 : Hp} (s : Stp K σ fr0 F0 H0 fr F H) {a : Addr} (h0 : H0 a = none) (ha : H a ≠ none) (no : ¬ Own fr σ a) : Stp K σ fr0 F0 H0 fr (fun b => F b ∨ b = a) H :=
  ⟨s.ok.freezeNew ha no, fun b z => .inl (s.le b z), fun b z => by
    rcases z with z | rfl
    · exact s.new b z
    · exact .inr (.inl h0), s.keep, s.alive, s.sub, s.bor, s.live⟩
/-- what an expression gave is frozen -/
theorem Stp.freeze {fr0 : Fr} {F0 : Addr → Prop} {H0 : Hp} (h0 : FrOk K H0 F0 σ fr0) (s : Stp K σ fr0 F0 H0 fr F H) (x : RfOk K σ fr H F v r) (n : RfNew H0 v r) {d : D} (e : frz fr r = some (d, fr')) : ∃ F', Stp K σ fr0 F0 H0 fr' F' H ∧ Rep K H F' v d := by
  cases r with
  | val d' =>
    cases e
    exact ⟨F, s, x⟩
  | tmp d' =>
    cases e
    obtain ⟨a, e, nf, no, r⟩ := x
    exact ⟨_, s.freezeTmp (n a e) r.some no, e ▸ r.freeze (fun _ z => .inl z) (.inr rfl)⟩
  | bor i =>
    obtain ⟨e1, s0, e2, _⟩ := x
    simp only [frz, e2] at e
    cases s0 with
    | none => cases e
    | val d' =>
      cases e
      obtain ⟨v', e3, r⟩ := s.ok.val i d e2
      rw [e1] at e3; cases e3
      exact ⟨F, s, r⟩
    | own b d' =>
      cases b with
      | true => cases e
      | false =>
        cases e
        obtain ⟨F', t, r⟩ := Stp.freezeSlot s.ok e2 e1
        exact ⟨F', s.trans h0 t, r⟩
end
end QL
/-! QB: the compiled terms and what it asks (weakest preconditions over frames) -/
namespace QL
open PySem L2

/-! ### data -/
/-- plain data (no dicts, no sets) of at most this depth -/
def Pl : Nat → D → Prop
  | 0, .tup xs => xs = []
  | 0, .lst xs => xs = []
  | n + 1, .tup xs => ∀ x ∈ xs, Pl n x
  | n + 1, .lst xs => ∀ x ∈ xs, Pl n x
  | _, .dct _ _ => False
  | _, .set _ => False
  | _, .frl _ => False
  | _, _ => True
mutual
def toPy : D → PyData
  | .non => .none
  | .bl b => .bool b
  | .int i => .int i
  | .str x => .str x
  | .tup xs => .tuple (toPys xs)
  | .lst xs => .list (toPys xs)
  | .dct _ _ => .dict []
  | .set _ => .dict []
  | .frl _ => .dict []
def toPys : List D → List PyData
  | [] => []
  | x :: xs => toPy x :: toPys xs
end
/-- == of Python -/
def eqvD (x y : D) : Bool := PyData.eqv (toPy x) (toPy y)
/-- a text's signs -/
abbrev sg (x : Str) : List Nat := x.cps.toList
/-- < of ints, of texts -/
def ltS : D → D → Option Bool
  | .int i, .int j => some (decide (i < j))
  | .str x, .str y => some (decide (sg x < sg y))
  | _, _ => none

/-! ### terms -/
inductive Op where
  | add | sub | mul | fdiv | mod | pow | shl | shr | neg
  | eq | ne | lt | le | gt | ge | isin | notin | isN | notN
  | len | toInt | toList | toTup | sum | max1 | min1 | any | all | sorted | max2 | min2
  | ix | slAll | slLo | slHi
  | pop | append | insert | reverse | join | dget2 | setIx | sortSet | slRev | lrng
  | indexL | indexT
  | isi (tys : List String) (one : Bool)
  deriving DecidableEq
inductive CT where
  | n (i : Nat) | t (is : List Nat) | t2 (i : Nat) (is : List Nat)
mutual
inductive CX where
  | k (d : D) | v (i : Nat) | fz (a : CX)
  | op (o : Op) (es : CXs)
  | mt (o : Op) (a : CX) (es : CXs)
  | sl2 (a lo hi : CX)
  | and (a b : CX) | or (a b : CX) | not (a : CX) | ife (t a b : CX)
  | tup (es : CXs) | lst (es : CXs)
  | call (f : Nat) (es : CXs)
  | lc (own : List Nat) (t : CT) (it : CI) (c : CO) (e : CX)
  | ssc (own : List Nat) (t : CT) (it : CI) (c : CO) (e : CX)
inductive CXs where
  | nil | cons (a : CX) (r : CXs)
inductive CO where
  | none | some (a : CX)
inductive CI where
  | seq (a : CX) | rng1 (a : CX) | rng2 (a b : CX) | enum (a : CX) | zip (a b : CX)
end
mutual
inductive CS where
  | set (t : CT) (e : CX) | setLc (i : Nat) (e : CX) | setIx (o i e : CX) | ex (e : CX) | ret (e : CX) | retN
  | aug (i : Nat) (o : Op) (e : CX)
  | ite (c : CX) (a b : CSs) | for (t : CT) (it : CI) (body : CSs) | whl (c : CX) (body : CSs)
  | brk | cnt | pass
  | fof (fg : List Nat) (t : CT) (it : CI) (body : CSs) | whf (fg : List Nat) (c : CX) (body : CSs)
inductive CSs where
  | nil | cons (a : CS) (r : CSs)
  | fgt (is : List Nat) (r : CSs) | frz (i : Nat) (r : CSs)
end

/-! ### operations by values -/
abbrev RK := Rf → Prop
def derefs (fr : Fr) : List Rf → Option (List D)
  | [] => some []
  | r :: rs => match deref fr r, derefs fr rs with
    | some d, some dr => some (d :: dr)
    | _, _ => none
/-- the truth of a value -/
def truthy : D → Option Bool
  | .non => some false
  | .bl b => some b
  | .int i => some (i != 0)
  | .str x => some (x.length != 0)
  | .tup xs => some (!xs.isEmpty)
  | .lst xs => some (!xs.isEmpty)
  | .dct ks _ => some (!ks.isEmpty)
  | .set _ => none
  | .frl _ => none
/-- x in y -/
def inW (x y : D) (Q : Bool → Prop) : Prop := match y with
  | .lst ys => Pl 30 x ∧ Pl 30 (.lst ys) ∧ Q (ys.any fun z => eqvD z x)
  | .tup ys => Pl 30 x ∧ Pl 30 (.tup ys) ∧ Q (ys.any fun z => eqvD z x)
  | _ => False
/-- a slice -/
def cutD (xs : List D) (lo hi : Option Int) : List D := (xs.drop (HT.sIx xs.length 0 lo)).take (HT.sIx xs.length xs.length hi - HT.sIx xs.length 0 lo)
def sliceW (x : D) (lo hi : Option Int) (Q : RK) : Prop := match x with
  | .lst xs => Q (.tmp (.lst (cutD xs lo hi)))
  | .tup xs => Q (.val (.tup (cutD xs lo hi)))
  | .str z => Q (.val (.str (cutS z lo hi)))
  | _ => False
def strsD : List D → Option (List Str)
  | [] => some []
  | .str x :: r => (strsD r).map (x :: ·)
  | _ => none
def intsD : List D → Option (List Int)
  | [] => some []
  | .int x :: r => (intsD r).map (x :: ·)
  | _ => none
def blsD : List D → Option (List Bool)
  | [] => some []
  | .bl x :: r => (blsD r).map (x :: ·)
  | _ => none
/-- sorted(..) of ints or of texts -/
def sortedW (xs : List D) (Q : RK) : Prop :=
  (∃ ns, intsD xs = some ns ∧ ∀ ys : List Int, ys.Perm ns → ys.Pairwise (· ≤ ·) → Q (.tmp (.lst (ys.map D.int)))) ∨
  (∃ ss, strsD xs = some ss ∧ ss.length ≤ 1000 ∧ ∀ ys : List Str, ys.Perm ss → ys.Pairwise (fun a b => ¬ sg b < sg a) → Q (.tmp (.lst (ys.map D.str))))
def tyOf : D → String
  | .non => "NoneType" | .bl _ => "bool" | .int _ => "int" | .str _ => "str" | .tup _ => "tuple" | .lst _ => "list" | .dct _ _ => "dict" | .set _ => "set" | .frl _ => "list"
def isiD (d : D) (tys : List String) : Bool := tys.any fun t => t == tyOf d || (t == "int" && tyOf d == "bool")
/-! operations that only read -/
def one (f : D → RK → Prop) : List D → RK → Prop
  | [x], Q => f x Q
  | _, _ => False
def two (f : D → D → RK → Prop) : List D → RK → Prop
  | [x, y], Q => f x y Q
  | _, _ => False
def three (f : D → D → D → RK → Prop) : List D → RK → Prop
  | [x, y, z], Q => f x y z Q
  | _, _ => False
def onI (f : Int → Int → RK → Prop) : D → D → RK → Prop
  | .int i, .int j, Q => f i j Q
  | _, _, _ => False
def addW : D → D → RK → Prop
  | .int i, .int j, Q => Q (.val (.int (i + j)))
  | .str x, .str y, Q => x.length + y.length ≤ sizeLine ∧ Q (.val (.str (x ++ y)))
  | .lst xs, .lst ys, Q => xs.length + ys.length ≤ sizeLine ∧ Q (.tmp (.lst (xs ++ ys)))
  | .tup xs, .tup ys, Q => xs.length + ys.length ≤ sizeLine ∧ Q (.val (.tup (xs ++ ys)))
  | _, _, _ => False
def mulW : D → D → RK → Prop
  | .int i, .int j, Q => CMul i j ∧ Q (.val (.int (i * j)))
  | .str x, .int j, Q => 2 ≤ j ∧ x.length = 1 ∧ j ≤ 1000000 ∧ Q (.val (.str ⟨(List.replicate j.toNat (x.cps.getD 0 0)).toArray⟩))
  | _, _, _ => False
def eqW (b : Bool) (x y : D) (Q : RK) : Prop := Pl 30 x ∧ Pl 30 y ∧ Q (.val (.bl (eqvD x y != b)))
def ltW : D → D → RK → Prop
  | .int i, .int j, Q => Q (.val (.bl (decide (i < j))))
  | .str x, .str y, Q => Q (.val (.bl (decide (sg x < sg y))))
  | _, _, _ => False
def gtW : D → D → RK → Prop
  | .int i, .int j, Q => Q (.val (.bl (decide (j < i))))
  | .str x, .str y, Q => Q (.val (.bl (decide (sg y < sg x))))
  | _, _, _ => False
def isNW (b : Bool) : D → RK → Prop
  | .non, Q => Q (.val (.bl (!b)))
  | _, Q => Q (.val (.bl b))
def lenW : D → RK → Prop
  | .lst xs, Q => Q (.val (.int xs.length))
  | .tup xs, Q => Q (.val (.int xs.length))
  | .frl xs, Q => Q (.val (.int xs.length))
  | .str x, Q => Q (.val (.int x.length))
  | _, _ => False
def toIntW : D → RK → Prop
  | .int i, Q => Q (.val (.int i))
  | .bl b, Q => Q (.val (.int (if b then 1 else 0)))
  | _, _ => False
def toListW : D → RK → Prop
  | .lst xs, Q => Q (.tmp (.lst xs))
  | .tup xs, Q => Q (.tmp (.lst xs))
  | _, _ => False
def toTupW : D → RK → Prop
  | .lst xs, Q => Q (.val (.tup xs))
  | .tup xs, Q => Q (.val (.tup xs))
  | _, _ => False
def anyW : D → RK → Prop
  | .lst xs, Q => ∃ bs, blsD xs = some bs ∧ Q (.val (.bl (bs.any id)))
  | _, _ => False
def allW : D → RK → Prop
  | .lst xs, Q => ∃ bs, blsD xs = some bs ∧ Q (.val (.bl (bs.all id)))
  | _, _ => False
def max1W : D → RK → Prop
  | .lst xs, Q => ∃ ns, intsD xs = some ns ∧ 0 < ns.length ∧ ∀ m, m ∈ ns → (∀ y ∈ ns, y ≤ m) → Q (.val (.int m))
  | _, _ => False
def min1W : D → RK → Prop
  | .lst xs, Q => ∃ ns, intsD xs = some ns ∧ 0 < ns.length ∧ ∀ m, m ∈ ns → (∀ y ∈ ns, m ≤ y) → Q (.val (.int m))
  | _, _ => False
def sumW : D → RK → Prop
  | .lst xs, Q => ∃ ns, intsD xs = some ns ∧ Q (.val (.int ns.sum))
  | _, _ => False
def srtW : D → RK → Prop
  | .lst xs, Q => sortedW xs Q
  | _, _ => False
/-- the texts ss, sorted, each once -/
def onceW (ss : List Str) (Q : RK) : Prop := ∀ ys : List Str, ys.Pairwise (fun a b => ¬ sg b < sg a) → ys.Nodup → (∀ k, k ∈ ys ↔ k ∈ ss) → Q (.tmp (.lst (ys.map D.str)))
/-- list(range(j)) -/
def lrngW : D → RK → Prop
  | .int j, Q => -(2 ^ 62) ≤ j ∧ j ≤ 1000000 ∧ Q (.tmp (.lst ((List.range j.toNat).map fun (i : Nat) => D.int ((0 : Int) + i))))
  | _, _ => False
def revW : D → RK → Prop
  | .lst xs, Q => Q (.tmp (.lst xs.reverse))
  | .tup xs, Q => Q (.val (.tup xs.reverse))
  | _, _ => False
def sortSetW : D → RK → Prop
  | .lst xs, Q => ∃ ss, strsD xs = some ss ∧ ss.length ≤ 1000 ∧ onceW ss Q
  | _, _ => False
def ixW : D → D → RK → Prop
  | .lst xs, .int i, Q => ∃ d, atI xs i = some d ∧ Q (.val d)
  | .tup xs, .int i, Q => ∃ d, atI xs i = some d ∧ Q (.val d)
  | .str x, .int i, Q => ∃ c, atI x.cps.toList i = some c ∧ Q (.val (.str ⟨#[c]⟩))
  | _, _, _ => False
/-- xs.index(y): ints in a list, texts in a tuple -/
def indexLW : D → D → RK → Prop
  | .lst xs, .int y, Q => ∃ ns, intsD xs = some ns ∧ y ∈ ns ∧ Q (.val (.int (ns.idxOf y)))
  | _, _, _ => False
def indexTW : D → D → RK → Prop
  | .tup xs, .str y, Q => ∃ ss, strsD xs = some ss ∧ y ∈ ss ∧ Q (.val (.int (ss.idxOf y)))
  | _, _, _ => False
def slLoW : D → D → RK → Prop
  | x, .int i, Q => sliceW x (some i) none Q
  | _, _, _ => False
def slHiW : D → D → RK → Prop
  | x, .int i, Q => sliceW x none (some i) Q
  | _, _, _ => False
def joinW : D → D → RK → Prop
  | .str z, .lst xs, Q => ∃ ss, strsD xs = some ss ∧ z = ⟨#[]⟩ ∧ ss.length ≤ 1000 ∧ (∀ x ∈ ss, x.length ≤ 1000) ∧ Q (.val (.str ⟨(ss.flatMap sg).toArray⟩))
  | _, _, _ => False
def readW (o : Op) : List D → RK → Prop := match o with
  | .add => two addW
  | .sub => two (onI fun i j Q => Q (.val (.int (i - j))))
  | .mul => two mulW
  | .fdiv => two (onI fun i j Q => CDiv i j ∧ Q (.val (.int (i / j))))
  | .mod => two (onI fun i j Q => 0 < j ∧ Q (.val (.int (i % j))))
  | .pow => two (onI fun i j Q => CPow i j ∧ Q (.val (.int (i ^ j.toNat))))
  | .shl => two (onI fun i j Q => CPow i j ∧ Q (.val (.int (i * 2 ^ j.toNat))))
  | .shr => two (onI fun i j Q => 0 ≤ j ∧ Q (.val (.int (i / 2 ^ j.toNat))))
  | .neg => one fun x Q => match x with
    | .int i => Q (.val (.int (-i)))
    | _ => False
  | .eq => two (eqW false)
  | .ne => two (eqW true)
  | .lt => two ltW
  | .gt => two gtW
  | .le => two (onI fun i j Q => Q (.val (.bl (decide (i ≤ j)))))
  | .ge => two (onI fun i j Q => Q (.val (.bl (decide (j ≤ i)))))
  | .isin => two fun x y Q => inW x y fun b => Q (.val (.bl b))
  | .notin => two fun x y Q => inW x y fun b => Q (.val (.bl (!b)))
  | .isN => one (isNW false)
  | .notN => one (isNW true)
  | .len => one lenW
  | .toInt => one toIntW
  | .toList => one toListW
  | .toTup => one toTupW
  | .any => one anyW
  | .all => one allW
  | .max1 => one max1W
  | .min1 => one min1W
  | .sum => one sumW
  | .sorted => one srtW
  | .sortSet => one sortSetW
  | .slRev => one revW
  | .lrng => one lrngW
  | .max2 => two (onI fun i j Q => Q (.val (.int (if j > i then j else i))))
  | .min2 => two (onI fun i j Q => Q (.val (.int (if j < i then j else i))))
  | .ix => two ixW
  | .slAll => one fun x Q => sliceW x none none Q
  | .slLo => two slLoW
  | .slHi => two slHiW
  | .join => two joinW
  | .indexL => two indexLW
  | .indexT => two indexTW
  | .isi tys _ => one fun d Q => Q (.val (.bl (isiD d tys)))
  | _ => fun _ _ => False
/-- operations, also those that change what a slot owns -/
def opW (o : Op) (rs : List Rf) (fr : Fr) (Q : Rf → Fr → Prop) : Prop := match o, rs with
  | .pop, [.bor i] => match fr[i]? with
    | some (.own b (.lst xs)) => match xs.getLast? with
      | some d => Q (.val d) (fr.set i (.own b (.lst xs.dropLast)))
      | none => False
    | _ => False
  | .append, [.bor i, .val d] => match fr[i]? with
    | some (.own b (.lst xs)) => xs.length < sizeLine ∧ Q (.val .non) (fr.set i (.own b (.lst (xs ++ [d]))))
    | _ => False
  | .insert, [.bor i, .val (.int j), .val d] => match fr[i]? with
    | some (.own b (.lst xs)) => 0 ≤ j ∧ j ≤ xs.length ∧ xs.length < sizeLine ∧ Q (.val .non) (fr.set i (.own b (.lst (xs.take j.toNat ++ d :: xs.drop j.toNat))))
    | _ => False
  | .reverse, [.bor i] => match fr[i]? with
    | some (.own b (.lst xs)) => Q (.val .non) (fr.set i (.own b (.lst xs.reverse)))
    | _ => False
  | o, rs => match derefs fr rs with
    | some ds => readW o ds fun r => Q r fr
    | none => False

/-- the kind of the receiver -/
def mtTy (o : Op) : Option D → Prop
  | some (.lst _) => o ≠ .join ∧ o ≠ .indexT
  | some (.tup _) => o = .indexT
  | some (.str _) => o = .join
  | _ => False
/-! ### targets, sources -/
def putSl (fr : Fr) (i : Nat) (s : Sl) : Option Fr := match fr[i]? with
  | some (.own true _) => none
  | some _ => some (fr.set i s)
  | none => none
def asgAll : Fr → List Nat → List D → Option Fr
  | fr, [], [] => some fr
  | fr, i :: is, d :: ds => (putSl fr i (.val d)).bind fun fr' => asgAll fr' is ds
  | _, _, _ => none
def asgT (fr : Fr) (t : CT) (d : D) : Option Fr := match t, d with
  | .n i, d => putSl fr i (.val d)
  | .t is, .tup ds => asgAll fr is ds
  | .t2 i is, .tup [d, .tup ds] => (putSl fr i (.val d)).bind fun fr' => asgAll fr' is ds
  | _, _ => none
inductive Src where
  | seq (r : Rf) | rng (lo : Int) (n : Nat) | enum (r : Rf) | zip (a b : Rf)
def seqItems : D → Option (List D)
  | .lst xs => some xs
  | .tup xs => some xs
  | .frl xs => some xs
  | _ => none
def enumD : Nat → List D → List D
  | _, [] => []
  | i, x :: xs => .tup [.int i, x] :: enumD (i + 1) xs
def zipD : List D → List D → List D
  | x :: xs, y :: ys => .tup [x, y] :: zipD xs ys
  | _, _ => []
def rngD (lo : Int) (n : Nat) : List D := (List.range n).map fun (i : Nat) => .int (lo + i)
def rfBor : Rf → List Nat
  | .bor i => [i]
  | _ => []
def srcBors : Src → List Nat
  | .seq r => rfBor r
  | .rng _ _ => []
  | .enum r => rfBor r
  | .zip a b => rfBor a ++ rfBor b
def srcDs (fr : Fr) : Src → Option (List D)
  | .seq r => (deref fr r).map fun d => [d]
  | .rng _ _ => some []
  | .enum r => (deref fr r).map fun d => [d]
  | .zip a b => (deref fr a).bind fun d => (deref fr b).map fun e => [d, e]
def itemsOf : Src → List D → Option (List D)
  | .seq _, [d] => seqItems d
  | .rng lo n, [] => some (rngD lo n)
  | .enum _, [.lst xs] => some (enumD 0 xs)
  | .enum _, [.tup xs] => some (enumD 0 xs)
  | .zip _ _, [.lst xs, .lst ys] => some (zipD xs ys)
  | .zip _ _, [.tup xs, .tup ys] => some (zipD xs ys)
  | _, _ => none
/-- pairs that an iterator makes are taken apart at once -/
def srcPr : Src → Bool
  | .enum _ => true
  | .zip _ _ => true
  | _ => false
def ctPair : CT → Bool
  | .n _ => false
  | _ => true
def itemsT : CT → Src → List D → Option (List D)
  | .t _, src, sv => itemsOf src sv
  | .t2 _ _, src, sv => itemsOf src sv
  | .n _, .seq r, sv => itemsOf (.seq r) sv
  | .n _, .rng lo n, sv => itemsOf (.rng lo n) sv
  | .n _, _, _ => none
def isTmp : Rf → Bool
  | .tmp _ => true
  | _ => false
/-- the source frozen -/
def frzSrc (fr : Fr) : Src → Option (Src × Fr)
  | .seq r => (frz fr r).map fun p => (.seq (.val p.1), p.2)
  | .rng lo n => some (.rng lo n, fr)
  | .enum r => (frz fr r).map fun p => (.enum (.val p.1), p.2)
  | .zip a b => if isTmp a || isTmp b then none else (frz fr a).bind fun p => (frz p.2 b).map fun q => (.zip (.val p.1) (.val q.1), q.2)

def augF : Op → Option (Int → Int → Int)
  | .add => some fun i j => i + j
  | .sub => some fun i j => i - j
  | _ => none
structure En where
  nx : Fr → Prop
  rt : Rf → Fr → Prop
  bk : Fr → Prop := fun _ => False
  ct : Fr → Prop := fun _ => False
/-- what a slot knows is forgotten -/
def fgS : Sl → Sl
  | .own true d => .own true d
  | _ => .none
def fg1 : Fr → Nat → Fr
  | [], _ => []
  | s :: r, 0 => fgS s :: r
  | s :: r, i + 1 => s :: fg1 r i
def fgtF (fr : Fr) : List Nat → Fr
  | [] => fr
  | i :: is => fgtF (fg1 fr i) is
/-- a parameter's slot as it is given back -/
def nrm : Sl → Sl
  | .own b d => .own b d
  | _ => .none
def outF (np : Nat) (fr : Fr) : List Sl := (fr.take np).map nrm
abbrev WC := Nat → List Sl → (Rf → List Sl → Prop) → Prop

/-! ### comprehensions -/
def wipeF (fr : Fr) : List Nat → Fr
  | [] => fr
  | i :: is => (wipeF fr is).set i .none
def isOwn (fr : Fr) (i : Nat) : Bool := match fr[i]? with
  | some (.own _ _) => true
  | _ => false
/-- the comprehension's own slots as they were -/
def restF (old fr : Fr) : List Nat → Fr
  | [] => fr
  | i :: is => (restF old fr is).set i (old.getD i .none)
def lcGo (src : Src) (sv : List D) (os : List Nat) (turn : D → Fr → (Option D → Fr → Prop) → Prop) : List D → List D → Fr → (List D → Fr → Prop) → Prop
  | [], acc, fr, R => srcDs fr src = some sv ∧ R acc fr
  | x :: r, acc, fr, R => srcDs fr src = some sv ∧ turn x fr fun o fr' => match o with
    | some d => lcGo src sv os turn r (acc ++ [d]) (wipeF fr' os) R
    | none => lcGo src sv os turn r acc (wipeF fr' os) R

/-! ### the call's arguments as slots -/
def argSl (fr : Fr) : Rf → Option Sl
  | .val d => some (.val d)
  | .tmp d => some (.own false d)
  | .bor i => match fr[i]? with
    | some (.own _ d) => some (.own true d)
    | some (.val d) => some (.val d)
    | _ => none
def argSls (fr : Fr) : List Rf → Option (List Sl)
  | [] => some []
  | r :: rs => match argSl fr r, argSls fr rs with
    | some s, some ss => some (s :: ss)
    | _, _ => none
def borrows : List Rf → List Nat
  | [] => []
  | .bor i :: rs => i :: borrows rs
  | _ :: rs => borrows rs
/-- lent objects come back changed -/
def giveBack (fr : Fr) : List Rf → List Sl → Option Fr
  | [], _ => some fr
  | .bor i :: rs, .own true d :: outs => match fr[i]? with
    | some (.own b _) => giveBack (fr.set i (.own b d)) rs outs
    | _ => none
  | .bor i :: rs, _ :: outs => match fr[i]? with
    | some (.val _) => giveBack fr rs outs
    | _ => none
  | _ :: rs, _ :: outs => giveBack fr rs outs
  | _ :: _, [] => none

section
variable (C : WC)
mutual
def wE : CX → Fr → (Rf → Fr → Prop) → Prop
  | .k d, fr, Q => Q (.val d) fr
  | .v i, fr, Q => match fr[i]? with
    | some (.val d) => Q (.val d) fr
    | some (.own _ _) => Q (.bor i) fr
    | _ => False
  | .fz a, fr, Q => wE a fr fun r fr' => match frz fr' r with
    | some (d, fr2) => Q (.val d) fr2
    | none => False
  | .op o es, fr, Q => wEs es fr fun rs fr' => opW o rs fr' Q
  | .mt o a es, fr, Q => wE a fr fun r fr' => mtTy o (deref fr' r) ∧ wEs es fr' fun rs fr2 => opW o (r :: rs) fr2 Q
  | .sl2 a lo hi, fr, Q => wE a fr fun ra fr1 => wE lo fr1 fun rl fr2 => match deref fr2 rl with
    | some (.int i) => wE hi fr2 fun rh fr3 => match deref fr3 rh, deref fr3 ra with
      | some (.int j), some x => sliceW x (some i) (some j) fun r => Q r fr3
      | _, _ => False
    | _ => False
  | .and a b, fr, Q => wE a fr fun r fr' => match deref fr' r with
    | some (.bl c) => if c = true then wE b fr' Q else Q (.val (.bl false)) fr'
    | _ => False
  | .or a b, fr, Q => wE a fr fun r fr' => match deref fr' r with
    | some (.bl c) => if c = true then Q (.val (.bl true)) fr' else wE b fr' Q
    | _ => False
  | .not a, fr, Q => wE a fr fun r fr' => match deref fr' r with
    | some (.bl c) => Q (.val (.bl (!c))) fr'
    | _ => False
  | .ife t a b, fr, Q => wT t fr fun c fr' => if c = true then wE a fr' Q else wE b fr' Q
  | .tup es, fr, Q => wZ es fr fun ds fr' => ds.length ≤ sizeLine ∧ Q (.val (.tup ds)) fr'
  | .lst es, fr, Q => wZ es fr fun ds fr' => ds.length ≤ sizeLine ∧ Q (.tmp (.lst ds)) fr'
  | .call f es, fr, Q => wEs es fr fun rs fr' => match argSls fr' rs with
    | some ss => (borrows rs).Nodup ∧ C f ss fun r outs => ∃ fr2, giveBack fr' rs outs = some fr2 ∧ Q r fr2
    | none => False
  | .lc os t it c e, fr, Q => wI it fr fun src fr1 => ∃ sv xs, srcDs fr1 src = some sv ∧ itemsT t src sv = some xs ∧ (∀ i ∈ os, isOwn fr1 i = false ∧ i < fr1.length ∧ i ∉ srcBors src) ∧ xs.length ≤ sizeLine ∧
      lcGo src sv os (fun x fr2 K => ∃ fr3, asgT fr2 t x = some fr3 ∧ wO c fr3 fun b fr4 => if b = true then wE e fr4 fun r fr5 => match frz fr5 r with
          | some (d, fr6) => K (some d) fr6
          | none => False
        else K none fr4) xs [] (wipeF fr1 os) fun acc fr' => Q (.tmp (.lst acc)) (restF fr1 fr' os)
  | .ssc os t it c e, fr, Q => wI it fr fun src fr1 => ∃ sv xs, srcDs fr1 src = some sv ∧ itemsT t src sv = some xs ∧ (∀ i ∈ os, isOwn fr1 i = false ∧ i < fr1.length ∧ i ∉ srcBors src) ∧ xs.length ≤ 1000 ∧
      lcGo src sv os (fun x fr2 K => ∃ fr3, asgT fr2 t x = some fr3 ∧ wO c fr3 fun b fr4 => if b = true then wE e fr4 fun r fr5 => match frz fr5 r with
          | some (.str k, fr6) => K (some (.str k)) fr6
          | _ => False
        else K none fr4) xs [] (wipeF fr1 os) fun acc fr' => ∃ ss, strsD acc = some ss ∧ onceW ss fun r => Q r (restF fr1 fr' os)
def wEs : CXs → Fr → (List Rf → Fr → Prop) → Prop
  | .nil, fr, Q => Q [] fr
  | .cons a r, fr, Q => wE a fr fun x fr' => wEs r fr' fun xs fr2 => Q (x :: xs) fr2
/-- each frozen as it comes -/
def wZ : CXs → Fr → (List D → Fr → Prop) → Prop
  | .nil, fr, Q => Q [] fr
  | .cons a r, fr, Q => wE a fr fun x fr' => match frz fr' x with
    | some (d, fr2) => wZ r fr2 fun ds fr3 => Q (d :: ds) fr3
    | none => False
def wT : CX → Fr → (Bool → Fr → Prop) → Prop
  | .and a b, fr, Q => wT a fr fun c fr' => if c = true then wT b fr' Q else Q false fr'
  | .or a b, fr, Q => wT a fr fun c fr' => if c = true then Q true fr' else wT b fr' Q
  | .not a, fr, Q => wT a fr fun c fr' => Q (!c) fr'
  | .k d, fr, Q => match truthy d with
    | some b => Q b fr
    | none => False
  | .v i, fr, Q => match deref fr (.bor i) with
    | some d => match truthy d with
      | some b => Q b fr
      | none => False
    | none => False
  | .op o es, fr, Q => wEs es fr fun rs fr' => opW o rs fr' fun r fr2 => match deref fr2 r with
    | some d => match truthy d with
      | some b => Q b fr2
      | none => False
    | none => False
  | .call f es, fr, Q => wEs es fr fun rs fr' => match argSls fr' rs with
    | some ss => (borrows rs).Nodup ∧ C f ss fun r outs => ∃ fr2, giveBack fr' rs outs = some fr2 ∧ match deref fr2 r with
      | some d => match truthy d with
        | some b => Q b fr2
        | none => False
      | none => False
    | none => False
  | _, _, _ => False
def wO : CO → Fr → (Bool → Fr → Prop) → Prop
  | .none, fr, Q => Q true fr
  | .some a, fr, Q => wT a fr Q
def wI : CI → Fr → (Src → Fr → Prop) → Prop
  | .seq a, fr, Q => wE a fr fun r fr' => Q (.seq r) fr'
  | .rng1 a, fr, Q => wE a fr fun r fr' => match deref fr' r with
    | some (.int j) => (-(2 ^ 62) ≤ j ∧ j < 2 ^ 62) ∧ Q (.rng 0 j.toNat) fr'
    | _ => False
  | .rng2 a b, fr, Q => wE a fr fun r fr' => wE b fr' fun r2 fr2 => match deref fr2 r, deref fr2 r2 with
    | some (.int i), some (.int j) => (-(2 ^ 62) ≤ i ∧ i < 2 ^ 62 ∧ -(2 ^ 62) ≤ j ∧ j < 2 ^ 62) ∧ Q (.rng i (j - i).toNat) fr2
    | _, _ => False
  | .enum a, fr, Q => wE a fr fun r fr' => Q (.enum r) fr'
  | .zip a b, fr, Q => wE a fr fun r fr' => wE b fr' fun r2 fr2 => Q (.zip r r2) fr2
end

def forGo (body : Fr → En → Prop) (t : CT) : List D → Fr → En → Prop
  | [], fr, E => E.nx fr
  | x :: r, fr, E => ∃ fr', asgT fr t x = some fr' ∧ body fr' { nx := fun fr2 => forGo body t r fr2 E, ct := fun fr2 => forGo body t r fr2 E, bk := E.nx, rt := E.rt }
def whlGo (c : Fr → (Bool → Fr → Prop) → Prop) (body : Fr → En → Prop) : Nat → Fr → En → Prop
  | 0, _, _ => False
  | n + 1, fr, E => c fr fun b fr' => if b = true then body fr' { nx := fun fr2 => whlGo c body n fr2 E, ct := fun fr2 => whlGo c body n fr2 E, bk := E.nx, rt := E.rt } else E.nx fr'
/-- loops that forget -/
def forGoF (body : Fr → En → Prop) (t : CT) (fg : List Nat) : List D → Fr → En → Prop
  | [], fr, E => E.nx (fgtF fr fg)
  | x :: r, fr, E => ∃ fr', asgT (fgtF fr fg) t x = some fr' ∧ body fr' { nx := fun fr2 => forGoF body t fg r fr2 E, ct := fun fr2 => forGoF body t fg r fr2 E, bk := fun fr2 => E.nx (fgtF fr2 fg), rt := E.rt }
def whlGoF (c : Fr → (Bool → Fr → Prop) → Prop) (body : Fr → En → Prop) (fg : List Nat) : Nat → Fr → En → Prop
  | 0, _, _ => False
  | n + 1, fr, E => c (fgtF fr fg) fun b fr' => if b = true then body fr' { nx := fun fr2 => whlGoF c body fg n fr2 E, ct := fun fr2 => whlGoF c body fg n fr2 E, bk := fun fr2 => E.nx (fgtF fr2 fg), rt := E.rt } else E.nx fr'
mutual
def wS : CS → Fr → En → Prop
  | .set t e, fr, E => wE C e fr fun r fr' => match r, t with
    | .tmp d, .n i => ∃ fr2, putSl fr' i (.own false d) = some fr2 ∧ E.nx fr2
    | r, t => match frz fr' r with
      | some (d, fr2) => ∃ fr3, asgT fr2 t d = some fr3 ∧ E.nx fr3
      | none => False
  | .setLc i e, fr, E => wE C e fr fun r fr' => match r with
    | .tmp d => ∃ fr2, putSl fr' i (.own false d) = some fr2 ∧ E.nx fr2
    | _ => False
  | .setIx o i e, fr, E => wE C e fr fun r fr1 => match frz fr1 r with
    | some (d, fr2) => wE C o fr2 fun ro fr3 => wE C i fr3 fun ri fr4 => match ro, deref fr4 ri with
      | .bor k, some (.int j) => match fr4[k]? with
        | some (.own b (.lst xs)) => ∃ n, L2.ixN xs.length j = some n ∧ E.nx (fr4.set k (.own b (.lst (xs.set n d))))
        | _ => False
      | _, _ => False
    | none => False
  | .ex e, fr, E => wE C e fr fun _ fr' => E.nx fr'
  | .ret e, fr, E => wE C e fr fun r fr' => match r with
    | .val d => E.rt (.val d) fr'
    | .tmp d => E.rt (.tmp d) fr'
    | .bor i => match fr'[i]? with
      | some (.own false d) => E.rt (.tmp d) (fr'.set i .none)
      | some (.val d) => E.rt (.val d) fr'
      | _ => False
  | .retN, fr, E => E.rt (.val .non) fr
  | .aug i o e, fr, E => match fr[i]? with
    | some (.val (.int x)) => wE C e fr fun r fr' => match deref fr' r with
      | some (.int y) => match augF o with
        | some f => E.nx (fr'.set i (.val (.int (f x y))))
        | none => False
      | _ => False
    | _ => False
  | .ite c a b, fr, E => wT C c fr fun x fr' => if x = true then wSs a fr' E else wSs b fr' E
  | .for t it body, fr, E => wI C it fr fun src fr1 => match frzSrc fr1 src with
    | some (src2, fr2) => ∃ sv xs, srcDs fr2 src2 = some sv ∧ itemsT t src2 sv = some xs ∧ forGo (wSs body) t xs fr2 E
    | none => False
  | .whl c body, fr, E => ∃ n, whlGo (wT C c) (wSs body) n fr E
  | .brk, fr, E => E.bk fr
  | .cnt, fr, E => E.ct fr
  | .pass, fr, E => E.nx fr
  | .fof fg t it body, fr, E => wI C it fr fun src fr1 => match frzSrc fr1 src with
    | some (src2, fr2) => ∃ sv xs, srcDs fr2 src2 = some sv ∧ itemsT t src2 sv = some xs ∧ forGoF (wSs body) t fg xs fr2 E
    | none => False
  | .whf fg c body, fr, E => ∃ n, whlGoF (wT C c) (wSs body) fg n fr E
def wSs : CSs → Fr → En → Prop
  | .fgt is r, fr, E => wSs r (fgtF fr is) E
  | .frz i r, fr, E => match fr[i]? with
    | some (.own false d) => wSs r (fr.set i (.val d)) E
    | some (.val _) => wSs r fr E
    | _ => False
  | .nil, fr, E => E.nx fr
  | .cons a r, fr, E => wS a fr { E with nx := fun fr' => wSs r fr' E }
end
end
/-- a def: parameters, slots, body -/
structure Fn where
  np : Nat
  ns : Nat
  body : CSs
/-- the calls of a table of defs, so many levels deep -/
def callW (T : List Fn) : Nat → WC
  | 0, _, _, _ => False
  | n + 1, f, ss, Q => match T[f]? with
    | some d => ss.length = d.np ∧ wSs (callW T n) d.body (ss ++ List.replicate (d.ns - d.np) .none) { nx := fun fr => Q (.val .non) (outF d.np fr), rt := fun r fr => Q r (outF d.np fr) }
    | none => False
end QL
/-! QC: the operations by values, over the hand layer -/
namespace QL
open PySem L2

theorem pe_imp {X : Cx} {e : Expr} {t t' : TE} (h : PE X e t) (i : ∀ σ H Q, t' σ H Q → t σ H Q) : PE X e t' := ⟨fun pins s σ H Q I q => h.run pins s σ H Q I (i σ H Q q)⟩

/-! ### tuples with their objects -/
section
open PySem
open PySem.W
open PyProof.Rows
variable {X : Cx}
def newTup (H : Hp) (xs : List V) (Q : VK) : Prop := ∀ (p : Addr) (o : Obj), o.dict = none → H p = none → Q (.ref p) (upd H p (.frz o (.tup xs)))
def tTupF (t : TA) : TE := fun σ H Q => t σ H fun xs H1 => xs.length ≤ sizeLine ∧ newTup H1 xs Q
theorem tupObj_ok {P : Program} {w : World} {H : Hp} {h : Heap} {us : List Value} {xs : List V} (r : Vals xs us) (hz : xs.length ≤ sizeLine) : ObjOk P w H (h.push { cls := .type "tuple", data := .seq us.toArray }) h.objs.size (.frz { cls := .type "tuple", data := .seq us.toArray } (.tup xs)) :=
  ⟨Heap.get?_push_size _ rfl, hz, us, r, IsTup.new _ _⟩
/-- a new tuple is laid -/
theorem tup_laid {pins : List (Addr × Obj)} {σ : L2.St} {H : Hp} {s : Shared} {us : List Value} {xs : List V} {Q : VK} (I : Inv X pins σ H s) (r : Vals xs us) (hz : xs.length ≤ sizeLine) (q : newTup H xs Q) :
    EP X pins σ Q (.ref s.heap.objs.size) { s with heap := s.heap.push { cls := .type "tuple", data := .seq us.toArray } } :=
  ⟨.ref s.heap.objs.size, _, I.laid (t' := s.toks) (fun _ _ e => Heap.get?_push_of_some _ e) (Nat.le_refl _) (tupObj_ok r hz), rfl, q _ _ rfl (I.hok.fresh (Nat.le_refl _))⟩
theorem pe_tupF {es : List Expr} {pos : Pos} {t : TA} {x1} (h : PA X es t) : PE X (.Tuple es x1 pos) (tTupF t) := by
  refine (⟨fun pins s σ H Q I hq => ?_⟩)
  exact wpAny_Tuple_spliced (thn (h.run pos pins s σ H _ I hq) fun us s1 ⟨xs, H1, I1, r, z, q⟩ => ⟨by rw [← r.length]; exact z, tup_laid I1 r z q⟩)
theorem call_tupF : CallR X (.type "tuple") (fun xs H Q => ∃ p ys, xs = [.ref p] ∧ ((SqL X.K H p ys ∧ newTup H ys Q) ∨ (SqT X.K H p ys ∧ Q (.ref p) H))) := by
  intro pins s σ H zs us Q I r h
  obtain ⟨p, ys, rfl, h⟩ := h
  obtain ⟨u, rfl, rx⟩ := (vals1 r)
  cases rx
  rcases (h) with ⟨hq, q⟩ | ⟨hq, q⟩
  · obtain ⟨its, r', pl, hz⟩ := (I.list hq)
    have hlen := r'.length
    refine call_tuple_list pl.isList (fun h' kp => ?_) (by (simp only [List.size_toArray]) <;> omega)
    have J : Inv X pins σ H { s with heap := h' } := I.kept (t' := s.toks) kp
    exact tup_laid (s := { s with heap := h' }) J r' hz q
  · obtain ⟨its, r', pl, hz⟩ := (I.tuple hq)
    exact (call_tuple_same pl ⟨.ref p, H, I, rfl, q⟩)
/-- t + u -/
def rCatF (K : PySem.W.Frag) : R2 := fun x y H Q => ∃ a b xs ys, x = .ref a ∧ y = .ref b ∧ SqT K H a xs ∧ SqT K H b ys ∧ xs.length + ys.length ≤ sizeLine ∧
  (xs = [] → Q (.ref b) H) ∧ (xs ≠ [] → ys = [] → Q (.ref a) H) ∧ (xs ≠ [] → ys ≠ [] → newTup H (xs ++ ys) Q)
theorem op_catF : OpR X (binaryOp .Add) (rCatF X.K) := by
  intro pins s σ H x y v u Q I rx ry ⟨a, b, xs, ys, ex, ey, ha, hb, hz, q0, q1, q2⟩
  subst ex ey
  cases rx
  cases ry
  have ⟨its, r1, p1, _⟩ := I.tuple ha
  have ⟨its2, r2, p2, _⟩ := I.tuple hb
  by_cases hx : xs = []
  · subst hx
    cases r1
    exact (cat_tup0 p1 p2 ⟨.ref b, H, I, rfl, q0 rfl⟩)
  · refine HT.cat_tup p1 p2 (fun z => hx (r1.nil_iff.mp z)) (fun z => ⟨.ref a, H, I, rfl, q1 hx (r2.nil_iff.mp z)⟩) (fun z => ?_) (by rw [← r1.length, ← r2.length]; exact hz)
    exact tup_laid I (r1.append r2) (by rw [List.length_append]; exact hz) (q2 hx fun w => z (r2.nil_iff.mpr w))
/-- t[lo:hi] -/
def rSlF (K : PySem.W.Frag) : V → Option Int → Option Int → Hp → VK → Prop := fun x lo hi H Q => ∃ a xs, x = .ref a ∧ SqT K H a xs ∧
  (HT.sIx xs.length 0 lo = 0 ∧ HT.sIx xs.length xs.length hi = xs.length → Q (.ref a) H) ∧ (¬ (HT.sIx xs.length 0 lo = 0 ∧ HT.sIx xs.length xs.length hi = xs.length) → newTup H (cutV xs lo hi) Q)
theorem sl_tupF : SlR X (rSlF X.K) := by
  intro pins s σ H x v vl vu lo hi sl Q I rx hs pl pu ⟨a, xs, ex, hx, q1, q2⟩
  subst ex
  cases rx
  have ⟨its, r, ht, hz⟩ := I.tuple hx
  have hlen : its.toArray.size = xs.length := by (rw [List.size_toArray]); exact r.length.symm
  refine (⟨"tuple", _, PyProof.Rows.slot_tuple_getitem.lookup, ht.typeIs, ?_⟩)
  by_cases hw : (HT.sIx xs.length 0 lo = 0) ∧ HT.sIx xs.length xs.length hi = xs.length
  · exact getItem_tuple_whole ht hs pl pu (by (rw [hlen]; exact hw)) ⟨.ref a, H, I, rfl, q1 hw⟩
  · refine HT.getItem_tuple_cut ht hs pl pu (by (rw [hlen]; exact hw)) ?_ (by (rw [hlen]; exact hz))
    (rw [hlen])
    exact tup_laid I ((r.drop (HT.sIx xs.length 0 lo)).take (HT.sIx xs.length xs.length hi - HT.sIx xs.length 0 lo)) (Nat.le_trans (cutV_length xs lo hi) hz) (q2 hw)
/-- a tuple has methods -/
def tyU (K : PySem.W.Frag) (T : String) (x : V) (H : Hp) : Prop := tyV K T x H ∨ (T = "tuple" ∧ ∃ (a : Addr) (o : Obj) (xs : List V), x = .ref a ∧ o.dict = none ∧ H a = some (.frz o (.tup xs)))
theorem tyU_is {pins : List (Addr × Obj)} {σ : L2.St} {H : Hp} {s : Shared} {T : String} {x : V} {v : Value} (I : Inv X pins σ H s) (r : RelV x v) (ty : tyU X.K T x H) :
    s.TypeIs v T ∧ (∀ a, v = .ref a → ∃ ob, s.heap.get? a = some ob ∧ ob.dict = none) := by
  rcases ty with ty | ⟨rfl, a, o, xs, rfl, hd, h⟩
  · exact tyV_is I r ty
  · cases r
    obtain ⟨h1, _, _, _, o2, h2, h3, _⟩ := (I.hok a _ h)
    have := h1.symm.trans h2
    cases this
    exact ⟨⟨o, h1, h3⟩, fun b e => by cases e; exact ⟨o, h1, hd⟩⟩
def tBU (K : PySem.W.Frag) (T : String) (r : V → List V → Hp → VK → Prop) (to : TE) (t : TA) : TE := fun σ H Q => to σ H fun x H1 => tyU K T x H1 ∧ t σ H1 fun xs H2 => r x xs H2 Q
theorem pe_bmU {o e : Expr} {es : List Expr} {to : TE} {t : TA} {name : Str} {apos cpos : Pos} {T id : String} {r : V → List V → Hp → VK → Prop} (pa : PlainAttrs T) (slot : Slot T name id) (hty : typeOf (.builtin id) = pure (.type "method_descriptor")) (hm : MtR X id r) (ho : PE X o to) (ha : PA X (e :: es) t)
    (hbase : attributeBase o name X.env (eval o X.env) = eval o X.env)
    (hfew : ((backTo cpos (starEach (e :: es) X.env)).all (fun x => !x.1) && (backToKw cpos (keywordEach [] X.env)).all (fun x => x.1.isSome) && decide ((e :: es).length + ([] : List Keyword).length + (if ([] : List Keyword).isEmpty then 0 else 1) < 30)) = true)
    (hline : (apos.endLine == cpos.line) = true) (hs : starEach (e :: es) X.env = (false, eval e X.env) :: starEach es X.env) (hplain : (backTo cpos (starEach es X.env)).any (·.1) = false) :
    PE X (.Call (.Attribute o name apos) (e :: es) [] cpos) (tBU X.K T r to t) := by
  refine (⟨fun pins s σ H Q I h => ?_⟩)
  refine wpAny_Call_method_late hbase hfew hline rfl (thn (ho.run pins s σ H _ I h) fun v sa ⟨x, Ha, Ia, ra, ty, q⟩ => ?_)
  have ⟨k1, k2⟩ := tyU_is Ia ra ty
  have hA := ha.run cpos pins sa σ Ha _ Ia q
  refine ⟨T, id, pa, slot, hty, k1, k2, ?_⟩
  rw [hs] at hA ⊢
  refine Calls.callWith_builtin (by show (false || (backTo cpos (starEach es X.env)).any (·.1)) = false; (rw [hplain]) <;> rfl) (Calls.evalArgs_plain ?_)
  exact thn hA fun us sb ⟨vs, Hb, Ib, rb, qb⟩ => hm pins sb σ Hb x vs v us Q Ib ra rb qb
end
/-- what an operation hands on -/
def Fin (K : PySem.W.Frag) (σ : Sg) (fr : Fr) (F : Addr → Prop) (H : Hp) (R : Rf → Prop) (Q : VK) : Prop :=
  ∀ r v H' F', R r → Stp K σ fr F H fr F' H' → RfOk K σ fr H' F' v r → RfNew H v r → Q v H'
section
variable {K : PySem.W.Frag} {σ : Sg} {fr : Fr} {F : Addr → Prop} {H : Hp} {R : Rf → Prop} {Q : VK}
theorem Fin.scal {d : D} {v : V} (f : Fin K σ fr F H R Q) (ok : FrOk K H F σ fr) (h : R (.val d)) (r : Rep K H F v d) : Q v H := f _ _ _ _ h (Stp.refl ok) r trivial
theorem Fin.newL {ds : List D} {xs : List V} {p : Addr} (f : Fin K σ fr F H R Q) (ok : FrOk K H F σ fr) (h : R (.tmp (.lst ds))) (r : RepL K H F xs ds) (hp : H p = none) : Q (.ref p) (upd H p (.lst xs)) := by
  have s : Stp K σ fr F H fr F (upd H p (.lst xs)) := Stp.laid ok hp
  refine f _ _ _ _ h s ⟨p, rfl, fun z => ok.fh p z hp, fun o => ok.there o hp, xs, upd_same, r.mono (fun _ z => z) (s.fkeep ok)⟩ fun a e => ?_
  cases e
  exact hp
theorem Fin.newT {ds : List D} {xs : List V} {p : Addr} {o : Obj} (f : Fin K σ fr F H R Q) (ok : FrOk K H F σ fr) (h : R (.val (.tup ds))) (r : RepL K H F xs ds) (hp : H p = none) (hd : o.dict = none) : Q (.ref p) (upd H p (.frz o (.tup xs))) := by
  have s : Stp K σ fr F H fr (fun a => F a ∨ a = p) (upd H p (.frz o (.tup xs))) := Stp.laidFz ok hp
  exact f _ _ _ _ h s (.tup (.inl ⟨.inr rfl, o, hd, upd_same⟩) (r.mono s.le (s.fkeep ok))) trivial
end
/-- an operation on two values reads -/
def rdB (X : Cx) (f : D → D → RK → Prop) : R2 := fun x y H Q => ∃ σ fr F d e R, FrOk X.K H F σ fr ∧ Now X.K H F x d ∧ Now X.K H F y e ∧ f d e R ∧ Fin X.K σ fr F H R Q
def rdU (X : Cx) (f : D → RK → Prop) : V → Hp → VK → Prop := fun x H Q => ∃ σ fr F d R, FrOk X.K H F σ fr ∧ Now X.K H F x d ∧ f d R ∧ Fin X.K σ fr F H R Q
def rdC1 (X : Cx) (f : D → RK → Prop) : List V → Hp → VK → Prop := fun xs H Q => ∃ x, xs = [x] ∧ rdU X f x H Q
def rdC2 (X : Cx) (f : D → D → RK → Prop) : List V → Hp → VK → Prop := fun xs H Q => ∃ x y, xs = [x, y] ∧ rdB X f x y H Q

section
variable {X : Cx}
/-- of two ints -/
theorem or_int {f : Value → Value → Sem Value} {C : Int → Int → Prop} {g : Int → Int → Int} (h : OpR X f (rI C fun i j => .int (g i j))) : OpR X f (rdB X (onI fun i j Q => C i j ∧ Q (.val (.int (g i j))))) := by
  intro pins s σ0 H x y v u Q I rx ry ⟨σ, fr, F, d, e, R, ok, hx, hy, hr, fin⟩
  cases d with
  | int i =>
    cases e with
    | int j =>
      obtain ⟨hc, hr⟩ := hr
      exact h pins s σ0 H x y v u Q I rx ry ⟨i, j, hx.int, hy.int, hc, fin.scal ok hr (.int _)⟩
    | _ => exact hr.elim
  | _ => exact hr.elim
theorem or_int0 {f : Value → Value → Sem Value} {g : Int → Int → Int} (h : OpR X f (rI0 fun i j => .int (g i j))) : OpR X f (rdB X (onI fun i j Q => Q (.val (.int (g i j))))) := by
  intro pins s σ0 H x y v u Q I rx ry ⟨σ, fr, F, d, e, R, ok, hx, hy, hr, fin⟩
  cases d with
  | int i =>
    cases e with
    | int j => exact h pins s σ0 H x y v u Q I rx ry ⟨i, j, hx.int, hy.int, fin.scal ok hr (.int _)⟩
    | _ => exact hr.elim
  | _ => exact hr.elim
theorem or_bl0 {f : Value → Value → Sem Value} {g : Int → Int → Bool} (h : OpR X f (rI0 fun i j => .bl (g i j))) : OpR X f (rdB X (onI fun i j Q => Q (.val (.bl (g i j))))) := by
  intro pins s σ0 H x y v u Q I rx ry ⟨σ, fr, F, d, e, R, ok, hx, hy, hr, fin⟩
  cases d with
  | int i =>
    cases e with
    | int j => exact h pins s σ0 H x y v u Q I rx ry ⟨i, j, hx.int, hy.int, fin.scal ok hr (.bl _)⟩
    | _ => exact hr.elim
  | _ => exact hr.elim
theorem strOk_iff {x : Str} : PyData.strOk x = true ↔ ∀ c ∈ sg x, c < 0x110000 := by
  unfold PyData.strOk
  rw [← Array.all_toList]; rw [List.all_eq_true]
  simp
theorem sg_append (x y : Str) : sg (x ++ y) = sg x ++ sg y := TL.tl_append x y
theorem len_sg (x : Str) : x.length = (sg x).length := TL.len_tl x
theorem strOk_append {x y : Str} (h1 : PyData.strOk x = true) (h2 : PyData.strOk y = true) : PyData.strOk (x ++ y) = true := by
  rw [strOk_iff, sg_append]
  intro c hc
  rcases List.mem_append.mp hc with z | z
  · exact strOk_iff.mp h1 c z
  · exact strOk_iff.mp h2 c z
theorem len_append (x y : Str) : (x ++ y).length = x.length + y.length := by rw [len_sg, sg_append, List.length_append, ← len_sg, ← len_sg]
theorem orB_add : OpR X (binaryOp .Add) (rdB X addW) := by
  intro pins s σ0 H x y v u Q I rx ry ⟨σ, fr, F, d, e, R, ok, hx, hy, hr, fin⟩
  cases d with
  | int i =>
    cases e with
    | int j => exact op_add pins s σ0 H x y v u Q I rx ry ⟨i, j, hx.int, hy.int, fin.scal ok hr (.int _)⟩
    | _ => exact hr.elim
  | str a =>
    cases e with
    | str b =>
      obtain ⟨hl, hr⟩ := hr
      obtain ⟨e1, o1, l1⟩ := hx.str
      obtain ⟨e2, o2, l2⟩ := hy.str
      exact op_add_str pins s σ0 H x y v u Q I rx ry ⟨a, b, e1, e2, hl, fin.scal ok hr (.str _ (strOk_append o1 o2) (by rw [len_append]; exact hl))⟩
    | _ => exact hr.elim
  | lst a =>
    cases e with
    | lst b =>
      obtain ⟨hl, hr⟩ := hr
      obtain ⟨p, xs, e1, h1, r1⟩ := hx.lst
      obtain ⟨q, ys, e2, h2, r2⟩ := hy.lst
      exact op_cat pins s σ0 H x y v u Q I rx ry ⟨p, q, xs, ys, e1, e2, h1, h2, by rw [r1.length, r2.length]; exact hl, fun n hn => fin.newL ok hr (r1.append r2) hn⟩
    | _ => exact hr.elim
  | tup a =>
    cases e with
    | tup b =>
      obtain ⟨hl, hr⟩ := hr
      obtain ⟨p, xs, e1, h1, r1⟩ := hx.tup
      obtain ⟨q, ys, e2, h2, r2⟩ := hy.tup
      refine op_catF pins s σ0 H x y v u Q I rx ry ⟨p, q, xs, ys, e1, e2, h1, h2, by rw [r1.length, r2.length]; exact hl, fun z => ?_, fun _ z => ?_, fun _ _ n o hd hn => fin.newT ok hr (r1.append r2) hn hd⟩
      · subst z
        cases r1
        rcases hy with hy | ⟨a', _, hy⟩
        · exact fin.scal ok hr (e2 ▸ hy)
        · exact hy.elim
      · subst z
        cases r2
        rcases hx with hx | ⟨a', _, hx⟩
        · rw [List.append_nil] at hr
          exact fin.scal ok hr (e1 ▸ hx)
        · exact hx.elim
    | _ => exact hr.elim
  | _ => exact hr.elim
theorem foldl_single (c : Nat) : ∀ (n : Nat) (acc : Array Nat), (List.replicate n #[c]).foldl (· ++ ·) acc = ⟨acc.toList ++ List.replicate n c⟩
  | 0, acc => by simp
  | n + 1, acc => by
    rw [List.replicate_succ, List.foldl_cons, foldl_single c n]
    simp [List.replicate_succ]
theorem orB_mul : OpR X (binaryOp .Mult) (rdB X mulW) := by
  intro pins s σ0 H x y v u Q I rx ry ⟨σ, fr, F, d, e, R, ok, hx, hy, hr, fin⟩
  cases d with
  | int i =>
    cases e with
    | int j =>
      obtain ⟨hc, hr⟩ := hr
      exact op_mul pins s σ0 H x y v u Q I rx ry ⟨i, j, hx.int, hy.int, hc, fin.scal ok hr (.int _)⟩
    | _ => exact hr.elim
  | str a =>
    cases e with
    | int j =>
      obtain ⟨h2, h1, h3, hr⟩ := hr
      obtain ⟨e1, o1, l1⟩ := hx.str
      have ey := hy.int
      subst e1 ey
      obtain ⟨t, rfl⟩ := rx
      obtain ⟨t', rfl⟩ := ry
      have hsl := sizeLine_eq
      have hj1 : ¬ j < 1 := by omega
      have hu : ¬ ((j == 1 || a.length == 0) = true) := by
        simp only [h1, Bool.or_eq_true, beq_iff_eq]
        omega
      have ea : a.cps = #[a.cps.getD 0 0] := by
        obtain ⟨⟨l⟩⟩ := a
        match l, h1 with
        | [c], _ => rfl
      refine PySem.P.mul_str (by
          have h4 : ¬ j < -(2 ^ 63 : Int) := by omega
          have h5 : ¬ j ≥ 2 ^ 63 := by omega
          rw [decide_eq_false h4, decide_eq_false h5]; rfl) (fun _ _ => ?_) (fun _ _ => ?_) ?_
      · rw [h1]
        have : (1 : Int) ≤ (2 ^ 63 - 1) / j := by
          rw [Int.le_ediv_iff_mul_le (by omega)]
          omega
        intro z
        have z' : ((1 : Nat) : Int) > (2 ^ 63 - 1) / j := z
        omega
      · rw [h1]
        unfold PySem.Builtin.Str.tooLong
        simp
        omega
      · rw [if_neg hj1, if_neg hu]
        have ef : (List.replicate j.toNat a.cps).foldl (· ++ ·) #[] = (List.replicate j.toNat (a.cps.getD 0 0)).toArray := by
          rw [ea, foldl_single]
          simp
        rw [ef]
        refine ⟨?_, ?_⟩
        · show (List.replicate j.toNat (a.cps.getD 0 0)).length ≤ _
          rw [List.length_replicate]
          omega
        · refine ⟨.str _, H, I.tok _, ⟨_, rfl⟩, fin.scal ok hr (.str _ ?_ ?_)⟩
          · rw [strOk_iff] at o1 ⊢
            intro c hc
            have hc : c ∈ List.replicate j.toNat (a.cps.getD 0 0) := hc
            have := (List.mem_replicate.mp hc).2
            rw [this]
            refine o1 _ ?_
            show a.cps.getD 0 0 ∈ a.cps.toList
            rw [ea]
            simp
          · rw [len_sg]
            show (List.replicate j.toNat _).length ≤ _
            rw [List.length_replicate]
            omega
    | _ => exact hr.elim
  | _ => exact hr.elim
end
end QL
/-! QD: comparisons, built-in functions by values -/
namespace QL
open PySem L2

mutual
theorem dp_of {K : PySem.W.Frag} {H : Hp} {F : Addr → Prop} : ∀ {n : Nat} {v : V} {d : D}, Pl n d → Rep K H F v d → Dp K H v (toPy d)
  | _, _, _, _, .non => .non
  | _, _, _, _, .bl b => .bl b
  | _, _, _, _, .int i => .int i
  | _, _, _, _, .str x _ _ => .str x
  | 0, _, .tup ds, p, .tup h r => .tup h.sq (dpL_of (n := 0) (fun x hx => by
      have e : ds = [] := p
      subst e
      cases hx) r)
  | n + 1, _, .tup ds, p, .tup h r => .tup h.sq (dpL_of (n := n) p r)
  | 0, _, .lst ds, p, .lst f h r => .lst (.of h) (dpL_of (n := 0) (fun x hx => by
      have e : ds = [] := p
      subst e
      cases hx) r)
  | n + 1, _, .lst ds, p, .lst f h r => .lst (.of h) (dpL_of (n := n) p r)
  | 0, _, _, p, .frl h r => (show False from p).elim
  | _ + 1, _, _, p, .frl h r => (show False from p).elim
  | 0, _, _, p, .dct .. => (show False from p).elim
  | _ + 1, _, _, p, .dct .. => (show False from p).elim
theorem dpL_of {K : PySem.W.Frag} {H : Hp} {F : Addr → Prop} : ∀ {n : Nat} {vs : List V} {ds : List D}, (∀ x ∈ ds, Pl n x) → RepL K H F vs ds → DpAll K H vs (toPys ds)
  | _, _, _, _, .nil => .nil
  | _, _, _, p, .cons h r => .cons (dp_of (p _ List.mem_cons_self) h) (dpL_of (fun x hx => p x (List.mem_cons_of_mem _ hx)) r)
end
theorem now_dp {K : PySem.W.Frag} {H : Hp} {F : Addr → Prop} {n : Nat} {v : V} {d : D} (p : Pl n d) (h : Now K H F v d) : Dp K H v (toPy d) := by
  rcases h with h | ⟨a, rfl, h⟩
  · exact dp_of p h
  · cases d <;> first | exact h.elim | skip
    · obtain ⟨xs, e, r⟩ := h
      cases n with
      | zero =>
        have e' : _ = [] := p
        subst e'
        exact .lst (.of e) (dpL_of (n := 0) (fun x hx => by cases hx) r)
      | succ n => exact .lst (.of e) (dpL_of (n := n) p r)
    · cases n <;> exact (show False from p).elim

mutual
theorem lay_of {K : PySem.W.Frag} {H : Hp} {F : Addr → Prop} : ∀ {n : Nat} {v : V} {d : D}, Pl n d → Rep K H F v d → (toPy d).canLay0 = true
  | _, _, _, _, .non => rfl
  | _, _, _, _, .bl b => rfl
  | _, _, _, _, .int i => rfl
  | _, _, _, _, .str x h _ => h
  | 0, _, .tup ds, p, .tup h r => layL_of (n := 0) (fun x hx => by
      have e : ds = [] := p
      subst e
      cases hx) r
  | n + 1, _, .tup ds, p, .tup h r => layL_of (n := n) p r
  | 0, _, .lst ds, p, .lst f h r => layL_of (n := 0) (fun x hx => by
      have e : ds = [] := p
      subst e
      cases hx) r
  | n + 1, _, .lst ds, p, .lst f h r => layL_of (n := n) p r
  | 0, _, _, p, .frl h r => (show False from p).elim
  | _ + 1, _, _, p, .frl h r => (show False from p).elim
  | 0, _, _, p, .dct .. => (show False from p).elim
  | _ + 1, _, _, p, .dct .. => (show False from p).elim
theorem layL_of {K : PySem.W.Frag} {H : Hp} {F : Addr → Prop} : ∀ {n : Nat} {vs : List V} {ds : List D}, (∀ x ∈ ds, Pl n x) → RepL K H F vs ds → PyData.canLayAll0 (toPys ds) = true
  | _, _, _, _, .nil => rfl
  | _, _, _, p, .cons h r => by
    unfold toPys PyData.canLayAll0
    rw [lay_of (p _ List.mem_cons_self) h, layL_of (fun x hx => p x (List.mem_cons_of_mem _ hx)) r]
    rfl
end
mutual
theorem depth_of : ∀ {n : Nat} {d : D}, Pl n d → (toPy d).depth ≤ n + 1
  | _, .non, _ => Nat.zero_le _
  | _, .bl b, _ => Nat.zero_le _
  | _, .int i, _ => Nat.zero_le _
  | _, .str x, _ => Nat.zero_le _
  | 0, .tup ds, p => by
    have e : ds = [] := p
    subst e
    exact Nat.le_refl 1
  | n + 1, .tup ds, p => Nat.succ_le_succ (depthL_of p)
  | 0, .lst ds, p => by
    have e : ds = [] := p
    subst e
    exact Nat.le_refl 1
  | n + 1, .lst ds, p => Nat.succ_le_succ (depthL_of p)
  | 0, .frl _, p => (show False from p).elim
  | _ + 1, .frl _, p => (show False from p).elim
  | 0, .dct _ _, p => (show False from p).elim
  | _ + 1, .dct _ _, p => (show False from p).elim
  | 0, .set _, p => (show False from p).elim
  | _ + 1, .set _, p => (show False from p).elim
theorem depthL_of : ∀ {n : Nat} {ds : List D}, (∀ x ∈ ds, Pl n x) → PyData.depthAll (toPys ds) ≤ n + 1
  | _, [], _ => Nat.zero_le _
  | n, d :: ds, p => Nat.max_le.mpr ⟨depth_of (p _ List.mem_cons_self), depthL_of fun x hx => p x (List.mem_cons_of_mem _ hx)⟩
end
theorem now_shaped {K : PySem.W.Frag} {H : Hp} {F : Addr → Prop} {v : V} {d : D} (p : Pl 30 d) (h : Now K H F v d) : SeqAt.shaped (toPy d) = true := by
  have hd := depth_of p
  have hl : (toPy d).canLay0 = true := by
    rcases h with h | ⟨a, rfl, h⟩
    · exact lay_of p h
    · cases d <;> first | exact h.elim | skip
      · obtain ⟨xs, e, r⟩ := h
        exact layL_of (n := 29) p r
      · exact (show False from p).elim
  unfold SeqAt.shaped
  rw [hl, decide_eq_true (by omega)]
  rfl
theorem any_toPys (f : PyData → Bool) : ∀ ys : List D, (toPys ys).any f = ys.any fun z => f (toPy z)
  | [] => rfl
  | y :: ys => by rw [toPys, List.any_cons, List.any_cons, any_toPys f ys]

section
variable {X : Cx}
theorem orB_eq (hu : X.A.units + 65 < cLine) : OpR X (compareOp .Eq) (rdB X (eqW false)) := by
  intro pins s σ0 H x y v u Q I rx ry ⟨σ, fr, F, d, e, R, ok, hx, hy, ⟨p1, p2, hr⟩, fin⟩
  refine op_eqD (by omega) pins s σ0 H x y v u Q I rx ry ⟨_, _, now_dp p1 hx, now_dp p2 hy, now_shaped p1 hx, now_shaped p2 hy, fin.scal ok ?_ (.bl _)⟩
  have e1 : (eqvD d e != false) = PyData.eqv (toPy d) (toPy e) := by unfold eqvD; cases PyData.eqv (toPy d) (toPy e) <;> rfl
  rw [← e1]
  exact hr
theorem orB_ne (hu : X.A.units + 65 < cLine) : OpR X (compareOp .NotEq) (rdB X (eqW true)) := by
  intro pins s σ0 H x y v u Q I rx ry ⟨σ, fr, F, d, e, R, ok, hx, hy, ⟨p1, p2, hr⟩, fin⟩
  refine op_neD (by omega) pins s σ0 H x y v u Q I rx ry ⟨_, _, now_dp p1 hx, now_dp p2 hy, now_shaped p1 hx, now_shaped p2 hy, fin.scal ok ?_ (.bl _)⟩
  have e1 : (eqvD d e != true) = !PyData.eqv (toPy d) (toPy e) := by unfold eqvD; cases PyData.eqv (toPy d) (toPy e) <;> rfl
  rw [← e1]
  exact hr
theorem orB_lt : OpR X (compareOp .Lt) (rdB X ltW) := by
  intro pins s σ0 H x y v u Q I rx ry ⟨σ, fr, F, d, e, R, ok, hx, hy, hr, fin⟩
  cases d with
  | int i =>
    cases e with
    | int j => exact op_lt pins s σ0 H x y v u Q I rx ry ⟨i, j, hx.int, hy.int, fin.scal ok hr (.bl _)⟩
    | _ => exact hr.elim
  | str a =>
    cases e with
    | str b => exact op_lt_str pins s σ0 H x y v u Q I rx ry ⟨a, b, hx.str.1, hy.str.1, fin.scal ok hr (.bl _)⟩
    | _ => exact hr.elim
  | _ => exact hr.elim
theorem orB_gt : OpR X (compareOp .Gt) (rdB X gtW) := by
  intro pins s σ0 H x y v u Q I rx ry ⟨σ, fr, F, d, e, R, ok, hx, hy, hr, fin⟩
  cases d with
  | int i =>
    cases e with
    | int j => exact op_gt pins s σ0 H x y v u Q I rx ry ⟨i, j, hx.int, hy.int, fin.scal ok hr (.bl _)⟩
    | _ => exact hr.elim
  | str a =>
    cases e with
    | str b => exact op_gt_str pins s σ0 H x y v u Q I rx ry ⟨a, b, hx.str.1, hy.str.1, fin.scal ok hr (.bl _)⟩
    | _ => exact hr.elim
  | _ => exact hr.elim
/-- x in a tuple -/
theorem op_inT (hu : X.A.units + 65 < cLine) : OpR X (compareOp .In) (fun x y H Q => ∃ d ds, Dp X.K H x d ∧ Dp X.K H y (.tuple ds) ∧ SeqAt.shaped d = true ∧ SeqAt.shaped (.tuple ds) = true ∧ Q (.bl (ds.any fun z => PyData.eqv z d)) H) := by
  intro pins s σ H x y v u Q I rx ry hh
  obtain ⟨d, ds, hd, he, sd, se, q⟩ := hh
  obtain ⟨as, r1⟩ := Dp.reads I d x v (hd) rx
  obtain ⟨bs, r2⟩ := Dp.reads I (.tuple ds) y u he ry
  exact SeqAt.in_tuple_reads r2 r1 (SeqAt.canLay_of_shaped se) (SeqAt.canLay_of_shaped sd) (PyProof.Rows.room_in_shaped sd hu) ⟨.bl _, H, I, rfl, q⟩
theorem op_notInT (hu : X.A.units + 65 < cLine) : OpR X (compareOp .NotIn) (fun x y H Q => ∃ d ds, Dp X.K H x d ∧ Dp X.K H y (.tuple ds) ∧ SeqAt.shaped d = true ∧ SeqAt.shaped (.tuple ds) = true ∧ Q (.bl (!ds.any fun z => PyData.eqv z d)) H) := by
  intro pins s σ H x y v u Q I rx ry hh
  obtain ⟨d, ds, hd, he, sd, se, q⟩ := hh
  obtain ⟨as, r1⟩ := Dp.reads I d x v (hd) rx
  obtain ⟨bs, r2⟩ := Dp.reads I (.tuple ds) y u he ry
  exact SeqAt.notIn_tuple_reads r2 r1 (SeqAt.canLay_of_shaped se) (SeqAt.canLay_of_shaped sd) (PyProof.Rows.room_in_shaped sd hu) ⟨.bl _, H, I, rfl, q⟩
theorem orB_in (hu : X.A.units + 65 < cLine) : OpR X (compareOp .In) (rdB X fun x y Q => inW x y fun b => Q (.val (.bl b))) := by
  intro pins s σ0 H x y v u Q I rx ry ⟨σ, fr, F, d, e, R, ok, hx, hy, hr, fin⟩
  cases e with
  | lst ys =>
    obtain ⟨p1, p2, hr⟩ := hr
    refine op_inD hu pins s σ0 H x y v u Q I rx ry ⟨_, toPys ys, now_dp p1 hx, now_dp p2 hy, now_shaped p1 hx, now_shaped p2 hy, fin.scal ok ?_ (.bl _)⟩
    rw [any_toPys]
    exact hr
  | tup ys =>
    obtain ⟨p1, p2, hr⟩ := hr
    refine op_inT hu pins s σ0 H x y v u Q I rx ry ⟨_, toPys ys, now_dp p1 hx, now_dp p2 hy, now_shaped p1 hx, now_shaped p2 hy, fin.scal ok ?_ (.bl _)⟩
    rw [any_toPys]
    exact hr
  | _ => exact hr.elim
theorem orB_notin (hu : X.A.units + 65 < cLine) : OpR X (compareOp .NotIn) (rdB X fun x y Q => inW x y fun b => Q (.val (.bl (!b)))) := by
  intro pins s σ0 H x y v u Q I rx ry ⟨σ, fr, F, d, e, R, ok, hx, hy, hr, fin⟩
  cases e with
  | lst ys =>
    obtain ⟨p1, p2, hr⟩ := hr
    refine op_notInD hu pins s σ0 H x y v u Q I rx ry ⟨_, toPys ys, now_dp p1 hx, now_dp p2 hy, now_shaped p1 hx, now_shaped p2 hy, fin.scal ok ?_ (.bl _)⟩
    rw [any_toPys]
    exact hr
  | tup ys =>
    obtain ⟨p1, p2, hr⟩ := hr
    refine op_notInT hu pins s σ0 H x y v u Q I rx ry ⟨_, toPys ys, now_dp p1 hx, now_dp p2 hy, now_shaped p1 hx, now_shaped p2 hy, fin.scal ok ?_ (.bl _)⟩
    rw [any_toPys]
    exact hr
  | _ => exact hr.elim

/-! ### calls of built-ins with one value -/
theorem rC_len : CallR X (.builtin "len") (rdC1 X lenW) := by
  rintro pins s σ0 H xs us Q I r ⟨x, rfl, σ, fr, F, d, R, ok, hx, hr, fin⟩
  cases d with
  | lst ds =>
    obtain ⟨a, vs, e, h, r1⟩ := hx.lst
    exact call_len_seq pins s σ0 H _ us Q I r ⟨a, vs, by rw [e], .inl (.of h), fin.scal ok (by rw [r1.length]; exact hr) (.int _)⟩
  | frl ds =>
    obtain ⟨a, vs, e, h, r1⟩ := hx.frl
    exact call_len_seq pins s σ0 H _ us Q I r ⟨a, vs, by rw [e], .inl h, fin.scal ok (by rw [r1.length]; exact hr) (.int _)⟩
  | tup ds =>
    obtain ⟨a, vs, e, h, r1⟩ := hx.tup
    exact call_len_seq pins s σ0 H _ us Q I r ⟨a, vs, by rw [e], .inr h, fin.scal ok (by rw [r1.length]; exact hr) (.int _)⟩
  | str z =>
    obtain ⟨e, _, hl⟩ := hx.str
    exact call_len_str pins s σ0 H _ us Q I r ⟨z, by rw [e], hl, fin.scal ok hr (.int _)⟩
  | _ => exact hr.elim
theorem rC_toInt : CallR X (.type "int") (rdC1 X toIntW) := by
  rintro pins s σ0 H xs us Q I r ⟨x, rfl, σ, fr, F, d, R, ok, hx, hr, fin⟩
  cases d with
  | int i => exact call_int1 pins s σ0 H _ us Q I r (.inl ⟨i, by rw [hx.int], fin.scal ok hr (.int _)⟩)
  | bl b => exact call_int1 pins s σ0 H _ us Q I r (.inr ⟨b, by rw [hx.bl], fin.scal ok hr (.int _)⟩)
  | _ => exact hr.elim
theorem rC_toList : CallR X (.type "list") (rdC1 X toListW) := by
  rintro pins s σ0 H xs us Q I r ⟨x, rfl, σ, fr, F, d, R, ok, hx, hr, fin⟩
  cases d with
  | lst ds =>
    obtain ⟨a, vs, e, h, r1⟩ := hx.lst
    exact call_list_of pins s σ0 H _ us Q I r ⟨a, vs, by rw [e], .inl (.of h), fun n hn => fin.newL ok hr r1 hn⟩
  | tup ds =>
    obtain ⟨a, vs, e, h, r1⟩ := hx.tup
    exact call_list_of pins s σ0 H _ us Q I r ⟨a, vs, by rw [e], .inr h, fun n hn => fin.newL ok hr r1 hn⟩
  | _ => exact hr.elim
theorem rC_toTup : CallR X (.type "tuple") (rdC1 X toTupW) := by
  rintro pins s σ0 H xs us Q I r ⟨x, rfl, σ, fr, F, d, R, ok, hx, hr, fin⟩
  cases d with
  | lst ds =>
    obtain ⟨a, vs, e, h, r1⟩ := hx.lst
    exact call_tupF pins s σ0 H _ us Q I r ⟨a, vs, by rw [e], .inl ⟨.of h, fun n o hd hn => fin.newT ok hr r1 hn hd⟩⟩
  | tup ds =>
    obtain ⟨a, vs, e, h, r1⟩ := hx.tup
    refine call_tupF pins s σ0 H _ us Q I r ⟨a, vs, by rw [e], .inr ⟨h, ?_⟩⟩
    rcases hx with hx | ⟨_, _, hx⟩
    · exact fin.scal ok hr (e ▸ hx)
    · exact hx.elim
  | _ => exact hr.elim
theorem repL_bls {K : PySem.W.Frag} {H : Hp} {F : Addr → Prop} : ∀ {vs : List V} {ds : List D} {bs : List Bool}, RepL K H F vs ds → blsD ds = some bs → vs = bs.map V.bl
  | _, _, _, .nil, e => by cases e; rfl
  | _, .bl b :: ds, bs, .cons h r, e => by
    unfold blsD at e
    cases q : blsD ds with
    | none => (rw [q] at e; cases e)
    | some cs =>
      rw [q] at e
      cases e
      cases h
      rw [repL_bls r q]
      rfl
theorem repL_ints {K : PySem.W.Frag} {H : Hp} {F : Addr → Prop} : ∀ {vs : List V} {ds : List D} {bs : List Int}, RepL K H F vs ds → intsD ds = some bs → vs = bs.map V.int
  | _, _, _, .nil, e => by cases e; rfl
  | _, .int b :: ds, bs, .cons h r, e => by
    unfold intsD at e
    cases q : intsD ds with
    | none => (rw [q] at e; cases e)
    | some cs =>
      rw [q] at e
      cases e
      cases h
      rw [repL_ints r q]
      rfl
theorem repL_strs {K : PySem.W.Frag} {H : Hp} {F : Addr → Prop} : ∀ {vs : List V} {ds : List D} {bs : List Str}, RepL K H F vs ds → strsD ds = some bs → vs = bs.map V.str ∧ ∀ x ∈ bs, PyData.strOk x = true ∧ x.length ≤ sizeLine
  | _, _, _, .nil, e => by cases e; exact ⟨rfl, fun x hx => by cases hx⟩
  | _, .str b :: ds, bs, .cons h r, e => by
    unfold strsD at e
    cases q : strsD ds with
    | none => (rw [q] at e; cases e)
    | some cs =>
      rw [q] at e
      cases e
      cases h with
      | str _ h1 h2 =>
        obtain ⟨e1, e2⟩ := repL_strs r q
        refine ⟨by rw [e1]; rfl, fun x hx => ?_⟩
        rcases List.mem_cons.1 hx with rfl | hx
        · exact ⟨h1, h2⟩
        · exact e2 x hx
theorem repL_ofInts {K : PySem.W.Frag} {H : Hp} {F : Addr → Prop} : ∀ ns : List Int, RepL K H F (ns.map V.int) (ns.map D.int)
  | [] => .nil
  | n :: ns => .cons (.int n) (repL_ofInts ns)
theorem repL_ofStrs {K : PySem.W.Frag} {H : Hp} {F : Addr → Prop} : ∀ ns : List Str, (∀ x ∈ ns, PyData.strOk x = true ∧ x.length ≤ sizeLine) → RepL K H F (ns.map V.str) (ns.map D.str)
  | [], _ => .nil
  | n :: ns, h => .cons (.str n (h n List.mem_cons_self).1 (h n List.mem_cons_self).2) (repL_ofStrs ns fun x hx => h x (List.mem_cons_of_mem _ hx))
theorem rC_any (hc : X.calm = true) : CallR X (.builtin "any") (rdC1 X anyW) := by
  rintro pins s σ0 H xs us Q I r ⟨x, rfl, σ, fr, F, d, R, ok, hx, hr, fin⟩
  cases d with
  | lst ds =>
    obtain ⟨bs, eb, hr⟩ := hr
    obtain ⟨a, vs, e, h, r1⟩ := hx.lst
    have ev := repL_bls r1 eb
    subst ev
    exact cr_any hc pins s σ0 H _ us Q I r ⟨a, bs, by rw [e], .of h, fin.scal ok hr (.bl _)⟩
  | _ => exact hr.elim
theorem rC_all (hc : X.calm = true) : CallR X (.builtin "all") (rdC1 X allW) := by
  rintro pins s σ0 H xs us Q I r ⟨x, rfl, σ, fr, F, d, R, ok, hx, hr, fin⟩
  cases d with
  | lst ds =>
    obtain ⟨bs, eb, hr⟩ := hr
    obtain ⟨a, vs, e, h, r1⟩ := hx.lst
    have ev := repL_bls r1 eb
    subst ev
    exact cr_all hc pins s σ0 H _ us Q I r ⟨a, bs, by rw [e], .of h, fin.scal ok hr (.bl _)⟩
  | _ => exact hr.elim
theorem rC_max1 (hc : X.calm = true) : CallR X (.builtin "max") (rdC1 X max1W) := by
  rintro pins s σ0 H xs us Q I r ⟨x, rfl, σ, fr, F, d, R, ok, hx, hr, fin⟩
  cases d with
  | lst ds =>
    obtain ⟨bs, eb, hp, hr⟩ := hr
    obtain ⟨a, vs, e, h, r1⟩ := hx.lst
    have ev := repL_ints r1 eb
    subst ev
    exact cr_max hc pins s σ0 H _ us Q I r ⟨a, bs, by rw [e], .of h, hp, fun m h1 h2 => fin.scal ok (hr m h1 h2) (.int _)⟩
  | _ => exact hr.elim
theorem rC_min1 (hc : X.calm = true) : CallR X (.builtin "min") (rdC1 X min1W) := by
  rintro pins s σ0 H xs us Q I r ⟨x, rfl, σ, fr, F, d, R, ok, hx, hr, fin⟩
  cases d with
  | lst ds =>
    obtain ⟨bs, eb, hp, hr⟩ := hr
    obtain ⟨a, vs, e, h, r1⟩ := hx.lst
    have ev := repL_ints r1 eb
    subst ev
    exact cr_min hc pins s σ0 H _ us Q I r ⟨a, bs, by rw [e], .of h, hp, fun m h1 h2 => fin.scal ok (hr m h1 h2) (.int _)⟩
  | _ => exact hr.elim
theorem rC_sum (hc : X.calm = true) : CallR X (.builtin "sum") (rdC1 X sumW) := by
  rintro pins s σ0 H xs us Q I r ⟨x, rfl, σ, fr, F, d, R, ok, hx, hr, fin⟩
  cases d with
  | lst ds =>
    obtain ⟨bs, eb, hr⟩ := hr
    obtain ⟨a, vs, e, h, r1⟩ := hx.lst
    have ev := repL_ints r1 eb
    subst ev
    exact cr_sum hc pins s σ0 H _ us Q I r ⟨a, bs, by rw [e], .of h, fin.scal ok hr (.int _)⟩
  | _ => exact hr.elim
theorem rising_le : ∀ {p : Str} {l : List Str}, PyProof.Rows.risingS p l = true → (∀ x ∈ l, ¬ sg x < sg p) ∧ l.Pairwise (fun a b => ¬ sg b < sg a)
  | _, [], _ => ⟨(fun x hx => by cases hx), List.Pairwise.nil⟩
  | p, x :: r, h => by
    have h' : (!PySem.Spec.ltCps (sg x) (sg p) && PyProof.Rows.risingS x r) = true := h
    simp only [Bool.and_eq_true, Bool.not_eq_true', PyProof.Rows.ltCps_eq, decide_eq_false_iff_not] at h'
    obtain ⟨h1, h2⟩ := h'
    obtain ⟨i1, i2⟩ := rising_le h2
    refine ⟨fun y hy => ?_, List.pairwise_cons.mpr ⟨i1, i2⟩⟩
    rcases List.mem_cons.1 hy with rfl | hy
    · exact h1
    · have a1 : sg p ≤ sg x := List.not_lt.mp h1
      have a2 : sg x ≤ sg y := List.not_lt.mp (i1 y hy)
      exact List.not_lt.mpr (List.le_trans a1 a2)
theorem pairwise_sortedS : ∀ {l : List Str}, PyProof.Rows.sortedS l = true → l.Pairwise (fun a b => ¬ sg b < sg a)
  | [], _ => List.Pairwise.nil
  | x :: r, h => List.pairwise_cons.mpr (rising_le h)
/-- sorted of texts, any number up to 1000 -/
def rSrtS (K : PySem.W.Frag) : List V → Hp → VK → Prop := fun vs H Q => ∃ (a : Addr) (ss : List Str), vs = [.ref a] ∧ SqL K H a (ss.map V.str) ∧ ss.length ≤ 1000 ∧ ∀ (ys : List Str) (p : Addr), ys.Perm ss → PyProof.Rows.sortedS ys = true → H p = none → Q (.ref p) (upd H p (.lst (ys.map V.str)))
theorem cr_srtS : CallR X (.builtin "sorted") (rSrtS X.K) := by
  intro pins s σ H vs us Q I r hh
  obtain ⟨a, ss, rfl, hs, hl, q⟩ := hh
  obtain ⟨its, rv, li, _⟩ := I.list hs
  have l0 := rv.length
  rw [List.length_map] at l0
  rw [Vals.ref1 r]
  refine PyProof.Rows.sorted_strsAny li.isList rv.strs (by rw [← l0]; exact Nat.le_of_lt (small1000 hl)) fun out ys k1 k2 k3 => ?_
  obtain ⟨e, he⟩ := PyProof.Rows.sortedAll_at s.heap its out
  have J := I.laid (t' := s.toks) (h' := PyProof.Rows.sortedAll s.heap its out) (a := s.heap.objs.size + 1) (o := .lst (ys.map V.str)) (fun _ _ => PyProof.Rows.sortedAll_old) (Nat.le_succ _)
    ⟨by rw [List.length_map, k2.length_eq]; exact Nat.le_of_lt (small1000 hl), out.toList, e, vals_of_strs k1, he⟩
  exact ⟨.ref _, _, J, rfl, q ys _ k2 k3 (I.hok.fresh (Nat.le_succ _))⟩
theorem rC_sorted : CallR X (.builtin "sorted") (rdC1 X srtW) := by
  rintro pins s σ0 H xs us Q I r ⟨x, rfl, σ, fr, F, d, R, ok, hx, hr, fin⟩
  cases d with
  | lst ds =>
    obtain ⟨a, vs, e, h, r1⟩ := hx.lst
    rcases hr with ⟨ns, en, hr⟩ | ⟨ss, es, hl, hr⟩
    · have ev := repL_ints r1 en
      subst ev
      exact cr_sortedI pins s σ0 H _ us Q I r ⟨a, ns, by rw [e], .of h, fun ys p h1 h2 hp => fin.newL ok (hr ys h1 h2) (repL_ofInts ys) hp⟩
    · obtain ⟨ev, ho⟩ := repL_strs r1 es
      subst ev
      exact cr_srtS pins s σ0 H _ us Q I r ⟨a, ss, by rw [e], .of h, hl, fun ys p h1 h2 hp => fin.newL ok (hr ys h1 (pairwise_sortedS h2)) (repL_ofStrs ys fun x hx => ho x (h1.mem_iff.mp hx)) hp⟩
  | _ => exact hr.elim
theorem rC_max2 (hc : X.calm = true) : CallR X (.builtin "max") (rdC2 X (onI fun i j Q => Q (.val (.int (if j > i then j else i))))) := by
  rintro pins s σ0 H xs us Q I r ⟨x, y, rfl, σ, fr, F, d, e, R, ok, hx, hy, hr, fin⟩
  cases d with
  | int i =>
    cases e with
    | int j => exact call_max2 hc pins s σ0 H _ us Q I r ⟨i, j, by rw [hx.int, hy.int], fin.scal ok hr (.int _)⟩
    | _ => exact hr.elim
  | _ => exact hr.elim
theorem rC_min2 (hc : X.calm = true) : CallR X (.builtin "min") (rdC2 X (onI fun i j Q => Q (.val (.int (if j < i then j else i))))) := by
  rintro pins s σ0 H xs us Q I r ⟨x, y, rfl, σ, fr, F, d, e, R, ok, hx, hy, hr, fin⟩
  cases d with
  | int i =>
    cases e with
    | int j => exact call_min2 hc pins s σ0 H _ us Q I r ⟨i, j, by rw [hx.int, hy.int], fin.scal ok hr (.int _)⟩
    | _ => exact hr.elim
  | _ => exact hr.elim
end
end QL
/-! QE: subscripts, slices, join, isinstance, methods that change a list -/
namespace QL
open PySem L2

section
variable {K : PySem.W.Frag} {H : Hp} {F : Addr → Prop}
theorem repL_atI {vs : List V} {ds : List D} {i : Int} {d : D} (r : RepL K H F vs ds) (e : atI ds i = some d) : ∃ v, atI vs i = some v ∧ Rep K H F v d := by
  unfold atI at e ⊢
  rw [r.length]
  cases q : ixN ds.length i with
  | none => (rw [q] at e; cases e)
  | some j =>
    rw [q] at e
    have e : ds[j]? = some d := e
    obtain ⟨v, e1, e2⟩ := r.get' e
    exact ⟨v, e1, e2⟩
theorem repL_cut {vs : List V} {ds : List D} (r : RepL K H F vs ds) (lo hi : Option Int) : RepL K H F (cutV vs lo hi) (cutD ds lo hi) := by
  unfold cutV cutD
  rw [r.length]
  exact (r.drop _).take _
end
theorem mem_atI {α : Type} {xs : List α} {i : Int} {v : α} (h : atI xs i = some v) : v ∈ xs := by
  obtain ⟨j, _, e, _⟩ := atI_get h
  exact List.mem_of_getElem? e
def rdSl (X : Cx) (x : V) (lo hi : Option Int) (H : Hp) (Q : VK) : Prop := ∃ σ fr F d R, FrOk X.K H F σ fr ∧ Now X.K H F x d ∧ sliceW d lo hi R ∧ Fin X.K σ fr F H R Q
section
variable {X : Cx}
theorem iR_ix : IxR X (rdB X ixW) := by
  rintro value slice pins s σ0 H x y v u Q I rx ry ⟨σ, fr, F, d, e, R, ok, hx, hy, hr, fin⟩ hs
  cases d with
  | lst ds =>
    cases e with
    | int i =>
      obtain ⟨d, e, hr⟩ := hr
      obtain ⟨a, vs, ev, h, r1⟩ := hx.lst
      obtain ⟨w, e1, rw'⟩ := repL_atI r1 e
      exact ix_seq value slice pins s σ0 H x y v u Q I rx ry (.inl ⟨a, vs, i, w, ev, hy.int, .of h, e1, fin.scal ok hr rw'⟩) hs
    | _ => exact hr.elim
  | tup ds =>
    cases e with
    | int i =>
      obtain ⟨d, e, hr⟩ := hr
      obtain ⟨a, vs, ev, h, r1⟩ := hx.tup
      obtain ⟨w, e1, rw'⟩ := repL_atI r1 e
      exact ix_seq value slice pins s σ0 H x y v u Q I rx ry (.inr (.inl ⟨a, vs, i, w, ev, hy.int, h, e1, fin.scal ok hr rw'⟩)) hs
    | _ => exact hr.elim
  | str z =>
    cases e with
    | int i =>
      obtain ⟨c, e, hr⟩ := hr
      obtain ⟨ev, o, l⟩ := hx.str
      refine ix_seq value slice pins s σ0 H x y v u Q I rx ry (.inr (.inr ⟨z, i, c, ev, hy.int, l, e, fin.scal ok hr (.str _ ?_ ?_)⟩)) hs
      · rw [strOk_iff] at o ⊢
        intro c' hc
        have : c' = c := by simpa using hc
        rw [this]
        exact o c (mem_atI e)
      · show 1 ≤ sizeLine
        decide
    | _ => exact hr.elim
  | _ => exact hr.elim
theorem sR_sl : SlR X (rdSl X) := by
  rintro pins s σ0 H x v vl vu lo hi sl Q I rx hs pl pu ⟨σ, fr, F, d, R, ok, hx, hr, fin⟩
  cases d with
  | lst ds =>
    obtain ⟨a, vs, ev, h, r1⟩ := hx.lst
    exact sl_list pins s σ0 H x v vl vu lo hi sl Q I rx hs pl pu ⟨a, vs, ev, .of h, fun p hp => fin.newL ok hr (repL_cut r1 lo hi) hp⟩
  | tup ds =>
    obtain ⟨a, vs, ev, h, r1⟩ := hx.tup
    refine sl_tupF pins s σ0 H x v vl vu lo hi sl Q I rx hs pl pu ⟨a, vs, ev, h, fun z => ?_, fun _ p o hd hp => fin.newT ok hr (repL_cut r1 lo hi) hp hd⟩
    rw [r1.length] at z
    have e : cutD ds lo hi = ds := by
      unfold cutD
      rw [z.1, z.2]
      simp
    rcases hx with hx | ⟨_, _, hx⟩
    · have hr : R (.val (.tup (cutD ds lo hi))) := hr
      rw [e] at hr
      exact fin.scal ok hr (ev ▸ hx)
    · exact hx.elim
  | str z =>
    obtain ⟨ev, o, l⟩ := hx.str
    refine sl_str pins s σ0 H x v vl vu lo hi sl Q I rx hs pl pu ⟨z, ev, l, fin.scal ok hr (.str _ ?_ (Nat.le_trans (cutS_length z lo hi) l))⟩
    rw [strOk_iff] at o ⊢
    intro c hc
    exact o c (List.mem_of_mem_drop (List.mem_of_mem_take hc))
  | _ => exact hr.elim
/-! ### join -/
theorem joinL_nil : ∀ ls : List (List Nat), TL.joinL [] ls = ls.flatten
  | [] => rfl
  | [x] => by simp [TL.joinL]
  | x :: y :: r => by
    have ih := joinL_nil (y :: r)
    simp only [TL.joinL, List.flatten_cons] at ih ⊢
    rw [ih]
    simp
theorem join_sg (ss : List Str) : Txt.join ⟨#[]⟩ ss = ⟨(ss.flatMap sg).toArray⟩ := by
  apply TL.ext_tl
  rw [TL.join_eq, TL.tl_join]
  show TL.joinL [] _ = ss.flatMap sg
  rw [joinL_nil]
  rfl
theorem sum_le_mul : ∀ {l : List Nat} {b : Nat}, (∀ x ∈ l, x ≤ b) → l.sum ≤ l.length * b
  | [], _, _ => by simp
  | x :: l, b, h => by
    have h1 := h x List.mem_cons_self
    have h2 := sum_le_mul (l := l) (b := b) fun y hy => h y (List.mem_cons_of_mem _ hy)
    rw [List.sum_cons, List.length_cons, Nat.succ_mul]
    omega
theorem flat_len : ∀ ss : List Str, (ss.flatMap sg).length = (ss.map (·.length)).sum
  | [] => rfl
  | x :: r => by rw [List.flatMap_cons, List.length_append, flat_len r, List.map_cons, List.sum_cons, len_sg]
theorem mR_join : MtR X "str.join" (fun x xs H Q => ∃ y, xs = [y] ∧ rdB X joinW x y H Q) := by
  rintro pins s σ0 H x xs v us Q I rx rs ⟨y, rfl, σ, fr, F, d, e, R, ok, hx, hy, hr, fin⟩
  cases d with
  | str z =>
    cases e with
    | lst ds =>
      obtain ⟨ss, es, rfl, h1, h2, hr⟩ := hr
      obtain ⟨ev, _, _⟩ := hx.str
      obtain ⟨a, vs, e2, h, r1⟩ := hy.lst
      obtain ⟨e3, ho⟩ := repL_strs r1 es
      subst e3
      have hb : (ss.map (·.length)).sum ≤ 1000000 := by
        have := sum_le_mul (l := ss.map (·.length)) (b := 1000) fun n hn => by
          obtain ⟨w, hw, rfl⟩ := List.mem_map.mp hn
          exact h2 w hw
        rw [List.length_map] at this
        have : ss.length * 1000 ≤ 1000 * 1000 := Nat.mul_le_mul_right _ h1
        omega
      refine L2.mt_join pins s σ0 H x _ v us Q I rx rs ⟨⟨#[]⟩, a, ss, ev, by rw [e2], .inl (.of h), ?_, ?_⟩
      · have : ss.length * Str.length ⟨#[]⟩ = 0 := by simp [Str.length]
        omega
      · rw [join_sg]
        refine fin.scal ok hr (.str _ ?_ ?_)
        · rw [strOk_iff]
          intro c hc
          have hc : c ∈ ss.flatMap sg := hc
          obtain ⟨w, hw, hc⟩ := List.mem_flatMap.mp hc
          exact strOk_iff.mp (ho w hw).1 c hc
        · rw [len_sg]
          show (ss.flatMap sg).length ≤ _
          rw [flat_len]
          have := sizeLine_eq
          omega
    | _ => exact hr.elim
  | _ => exact hr.elim
/-! ### isinstance -/
theorem tyX_of {K : PySem.W.Frag} {H : Hp} {F : Addr → Prop} {v : V} {d : D} (h : Now K H F v d) (hs : ∀ xs, d ≠ .set xs) : TyX K H v (.type (tyOf d)) := by
  cases d with
  | non => rw [h.non]; exact .base .non
  | bl b => rw [h.bl]; exact .base (.bl b)
  | int i => rw [h.int]; exact .base (.int i)
  | str x => rw [h.str.1]; exact .base (.str x)
  | tup ds =>
    obtain ⟨a, vs, rfl, q, _⟩ := h.tup
    rcases q with (q | ⟨o, q⟩) | ⟨o, its, n, e, c, _⟩
    · exact .base (.tup q)
    · exact .fTuple q
    · exact .kTuple e c
  | lst ds =>
    obtain ⟨a, vs, rfl, q, _⟩ := h.lst
    exact .base (.lst q)
  | frl ds =>
    obtain ⟨a, vs, rfl, q, _⟩ := h.frl
    rcases q with (q | ⟨o, q⟩) | ⟨o, its, n, e, c, _⟩
    · exact .base (.lst q)
    · exact .base (.frz q)
    · exact .kList e c
  | dct ks vs =>
    obtain ⟨a, kvs, rfl, q, _⟩ := h.dct
    exact .base (.dK q)
  | set xs => exact absurd rfl (hs xs)
def isi1 (d : D) (t : String) : Bool := t == tyOf d || (t == "int" && tyOf d == "bool")
def isiTys : List String := ["tuple", "list", "bool", "int", "str", "dict"]
theorem kitB_ok (d : D) (hs : ∀ xs, d ≠ .set xs) : ∀ t ∈ isiTys, kitB (tyOf d) t = some (isi1 d t) := by
  cases d with
  | set xs => exact absurd rfl (hs xs)
  | non => decide +kernel
  | bl b => show ∀ t ∈ isiTys, kitB "bool" t = some (t == "bool" || (t == "int" && "bool" == "bool")); decide +kernel
  | int i => show ∀ t ∈ isiTys, kitB "int" t = some (t == "int" || (t == "int" && "int" == "bool")); decide +kernel
  | str x => show ∀ t ∈ isiTys, kitB "str" t = some (t == "str" || (t == "int" && "str" == "bool")); decide +kernel
  | tup x => show ∀ t ∈ isiTys, kitB "tuple" t = some (t == "tuple" || (t == "int" && "tuple" == "bool")); decide +kernel
  | lst x => show ∀ t ∈ isiTys, kitB "list" t = some (t == "list" || (t == "int" && "list" == "bool")); decide +kernel
  | frl x => show ∀ t ∈ isiTys, kitB "list" t = some (t == "list" || (t == "int" && "list" == "bool")); decide +kernel
  | dct x y => show ∀ t ∈ isiTys, kitB "dict" t = some (t == "dict" || (t == "int" && "dict" == "bool")); decide +kernel
theorem kitAny_ok {K : PySem.W.Frag} (d : D) (hs : ∀ xs, d ≠ .set xs) : ∀ tys : List String, (∀ t ∈ tys, t ∈ isiTys) → PySem.W.kitAny K (.type (tyOf d)) (tys.map Value.type) = some (isiD d tys)
  | [], _ => rfl
  | t :: r, h => by
    have ih := kitAny_ok (K := K) d hs r fun x hx => h x (List.mem_cons_of_mem _ hx)
    have e : isiD d (t :: r) = (isi1 d t || isiD d r) := rfl
    refine kitAny_cons (kit_ty (kitB_ok d hs t (h t List.mem_cons_self))) (fun q => ?_) fun q => ?_
    · rw [e, q]; exact ih
    · rw [e, q]; rfl
/-! ### methods that change what a slot owns -/
end
section
variable {K : PySem.W.Frag} {σ : Sg} {fr : Fr} {F : Addr → Prop} {H : Hp}
theorem Stp.setOwn (h : FrOk K H F σ fr) {i : Nat} {b : Bool} {d d' : D} {a : Addr} {o : HO} (e : fr[i]? = some (.own b d)) (ev : σ[i]? = some (some (.ref a)))
    (r : OwnRel K (upd H a o) F a d') : Stp K σ fr F H (fr.set i (.own b d')) F (upd H a o) := by
  have hi : i < fr.length := (List.getElem?_eq_some_iff.mp e).1
  obtain ⟨a', e1, nf, r0⟩ := h.own i b d e
  rw [ev] at e1; cases e1
  have oa : Own fr σ a := ⟨i, b, d, e, ev⟩
  have hF : ∀ c, F c → (upd H a o) c = H c := fun c f => upd_ne fun z => nf (z ▸ f)
  have old : ∀ {j : Nat} {c : Bool} {x : D}, (fr.set i (.own b d'))[j]? = some (.own c x) → ∃ y, fr[j]? = some (.own c y) := fun {j c x} e' => by
    by_cases hj : i = j
    · subst hj
      rw [List.getElem?_set_self hi] at e'
      cases e'
      exact ⟨d, e⟩
    · rw [get_set_ne hj] at e'
      exact ⟨x, e'⟩
  refine ⟨⟨fun c f => by rw [hF c f]; exact h.fh c f, fun j x e' => ?_, fun j c x e' => ?_, fun j k c c1 c2 d1 d2 e1 e2 s1 s2 => ?_, by rw [List.length_set]; exact h.len⟩,
    fun _ z => z, fun _ z => .inl z, fun c z n => upd_ne fun q => n (q ▸ oa), fun c z => ?_, fun j c x e' => old e', fun j x e' => ?_, fun j s e' n => ?_⟩
  · by_cases hj : i = j
    · subst hj
      rw [List.getElem?_set_self hi] at e'
      cases e'
    · rw [get_set_ne hj] at e'
      obtain ⟨v, e1, r1⟩ := h.val j x e'
      exact ⟨v, e1, r1.mono (fun _ z => z) hF⟩
  · by_cases hj : i = j
    · subst hj
      rw [List.getElem?_set_self hi] at e'
      cases e'
      exact ⟨a, ev, nf, r⟩
    · rw [get_set_ne hj] at e'
      obtain ⟨a', e1, nf', r1⟩ := h.own j c x e'
      refine ⟨a', e1, nf', r1.mono (fun _ z => z) hF (upd_ne fun z => ?_)⟩
      subst z
      exact hj (h.inj i j a' _ _ _ _ e e' ev e1)
  · obtain ⟨y1, f1⟩ := old e1
    obtain ⟨y2, f2⟩ := old e2
    exact h.inj j k c c1 c2 y1 y2 f1 f2 s1 s2
  · by_cases q : c = a
    · subst q; rw [upd_same]; simp
    · rw [upd_ne q]; exact z
  · by_cases hj : i = j
    · subst hj
      rw [e] at e'
      cases e'
      exact ⟨d', List.getElem?_set_self hi⟩
    · exact ⟨x, by rw [get_set_ne hj]; exact e'⟩
  · by_cases hj : i = j
    · subst hj
      exact ⟨_, List.getElem?_set_self hi, fun z => by cases z⟩
    · exact ⟨s, by rw [get_set_ne hj]; exact e', n⟩
/-- what a method of a slot's own list hands on -/
theorem mut_ok {R : Rf → Fr → Prop} {Q : VK} {i : Nat} {b : Bool} {ds ds' : List D} {d : D} {a : Addr} {xs' : List V} {v : V}
    (ok : FrOk K H F σ fr) (k : ∀ r fr' v H' F', R r fr' → Stp K σ fr F H fr' F' H' → RfOk K σ fr' H' F' v r → RfNew H v r → Q v H')
    (e : fr[i]? = some (.own b (.lst ds))) (ev : σ[i]? = some (some (.ref a))) (hr : R (.val d) (fr.set i (.own b (.lst ds')))) (r : RepL K H F xs' ds') (rv : Rep K H F v d) : Q v (upd H a (.lst xs')) := by
  obtain ⟨a', e1, nf, r0⟩ := ok.own i b _ e
  rw [ev] at e1; cases e1
  have hF : ∀ c, F c → (upd H a (HO.lst xs')) c = H c := fun c f => upd_ne fun z => nf (z ▸ f)
  have s := Stp.setOwn ok (d' := .lst ds') (o := .lst xs') e ev ⟨xs', upd_same, r.mono (fun _ z => z) hF⟩
  exact k _ _ _ _ _ hr s (rv.mono s.le (s.fkeep ok)) trivial
end
end QL
/-! QF: the readings of the compiled terms; lemmas for the soundness proof -/
namespace QL
open PySem L2

def semE (X : Cx) (w : Fr → (Rf → Fr → Prop) → Prop) : TE := fun σ H Q => ∃ (fr : Fr) (F : Addr → Prop) (R : Rf → Fr → Prop), FrOk X.K H F σ fr ∧ w fr R ∧
  ∀ r fr' v H' F', R r fr' → Stp X.K σ fr F H fr' F' H' → RfOk X.K σ fr' H' F' v r → RfNew H v r → Q v H'
inductive RfsOk (K : PySem.W.Frag) (σ : Sg) (fr : Fr) (H : Hp) (F : Addr → Prop) (H0 : Hp) : List V → List Rf → Prop
  | nil : RfsOk K σ fr H F H0 [] []
  | cons {v : V} {r : Rf} {vs : List V} {rs : List Rf} : RfOk K σ fr H F v r → RfNew H0 v r → (∀ d, r = .tmp d → ∀ (j : Nat) (d' : D), rs[j]? = some (.tmp d') → vs[j]? ≠ some v) → RfsOk K σ fr H F H0 vs rs → RfsOk K σ fr H F H0 (v :: vs) (r :: rs)
def semEs (X : Cx) (w : Fr → (List Rf → Fr → Prop) → Prop) : TA := fun σ H Q => ∃ (fr : Fr) (F : Addr → Prop) (R : List Rf → Fr → Prop), FrOk X.K H F σ fr ∧ w fr R ∧
  ∀ rs fr' vs H' F', R rs fr' → Stp X.K σ fr F H fr' F' H' → RfsOk X.K σ fr' H' F' H vs rs → Q vs H'
def semZ (X : Cx) (w : Fr → (List D → Fr → Prop) → Prop) : TA := fun σ H Q => ∃ (fr : Fr) (F : Addr → Prop) (R : List D → Fr → Prop), FrOk X.K H F σ fr ∧ w fr R ∧
  ∀ ds fr' vs H' F', R ds fr' → Stp X.K σ fr F H fr' F' H' → RepL X.K H' F' vs ds → Q vs H'
def semT (X : Cx) (w : Fr → (Bool → Fr → Prop) → Prop) : TT := fun σ H Q => ∃ (fr : Fr) (F : Addr → Prop) (R : Bool → Fr → Prop), FrOk X.K H F σ fr ∧ w fr R ∧
  ∀ b fr' H' F', R b fr' → Stp X.K σ fr F H fr' F' H' → Q b H'
theorem pt_imp {X : Cx} {e : Expr} {t t' : TT} (h : PT X e t) (i : ∀ σ H Q, t' σ H Q → t σ H Q) : PT X e t' := ⟨fun pins s σ H Q I q => h.run pins s σ H Q I (i σ H Q q)⟩
theorem pw_imp {X : Cx} {e : Expr} {t t' : TT} (h : PW X e t) (i : ∀ σ H Q, t' σ H Q → t σ H Q) : PW X e t' := ⟨fun wh pins s σ H Q I q => h.run wh pins s σ H Q I (i σ H Q q)⟩
theorem pa_imp {X : Cx} {e : List Expr} {t t' : TA} (h : PA X e t) (i : ∀ σ H Q, t' σ H Q → t σ H Q) : PA X e t' := ⟨fun p pins s σ H Q I q => h.run p pins s σ H Q I (i σ H Q q)⟩

theorem RfsOk.back {K : PySem.W.Frag} {σ : Sg} {fr fr0 fr1 : Fr} {H H0 H1 : Hp} {F F0 F1 : Addr → Prop} (s : Stp K σ fr0 F0 H0 fr1 F1 H1) : ∀ {vs : List V} {rs : List Rf}, RfsOk K σ fr H F H1 vs rs → RfsOk K σ fr H F H0 vs rs
  | _, _, .nil => .nil
  | _, _, .cons a b c d => .cons a (b.back s) c (RfsOk.back s d)
theorem RfsOk.new {K : PySem.W.Frag} {σ : Sg} {fr : Fr} {H H0 : Hp} {F : Addr → Prop} : ∀ {vs : List V} {rs : List Rf} {j : Nat} {d : D} {v : V}, RfsOk K σ fr H F H0 vs rs → rs[j]? = some (.tmp d) → vs[j]? = some v → ∃ a, v = .ref a ∧ H0 a = none
  | _, _, 0, d, v, .cons a b c r, e1, e2 => by
    simp at e1 e2
    subst e1 e2
    obtain ⟨p, e, _⟩ := a
    exact ⟨p, e, b p e⟩
  | _, _, j + 1, d, v, .cons a b c r, e1, e2 => RfsOk.new (j := j) r (by simpa using e1) (by simpa using e2)
  | _, _, _, _, _, .nil, e1, _ => by simp at e1
theorem RfsOk.length {K : PySem.W.Frag} {σ : Sg} {fr : Fr} {H H0 : Hp} {F : Addr → Prop} : ∀ {vs : List V} {rs : List Rf}, RfsOk K σ fr H F H0 vs rs → vs.length = rs.length
  | _, _, .nil => rfl
  | _, _, .cons _ _ _ r => by simp [RfsOk.length r]
theorem RfsOk.get {K : PySem.W.Frag} {σ : Sg} {fr : Fr} {H H0 : Hp} {F : Addr → Prop} : ∀ {vs : List V} {rs : List Rf} {j : Nat} {v : V} {r : Rf}, RfsOk K σ fr H F H0 vs rs → vs[j]? = some v → rs[j]? = some r → RfOk K σ fr H F v r ∧ RfNew H0 v r
  | _, _, 0, _, _, .cons a b c r, e1, e2 => by
    simp at e1 e2
    subst e1 e2
    exact ⟨a, b⟩
  | _, _, j + 1, _, _, .cons a b c r, e1, e2 => RfsOk.get (j := j) r (by simpa using e1) (by simpa using e2)
  | _, _, _, _, _, .nil, e1, _ => by simp at e1

section
variable {X : Cx}
/-- one part, then another -/
theorem sem1 {wa : Fr → (Rf → Fr → Prop) → Prop} {σ : Sg} {H : Hp} {fr : Fr} {F : Addr → Prop} {R : Rf → Fr → Prop} {P : V → Hp → Prop} (h0 : FrOk X.K H F σ fr) (h : wa fr R)
    (k : ∀ r fr' v H' F', R r fr' → Stp X.K σ fr F H fr' F' H' → RfOk X.K σ fr' H' F' v r → RfNew H v r → P v H') : semE X wa σ H P := ⟨fr, F, R, h0, h, k⟩
theorem sem2 {wa wb : Fr → (Rf → Fr → Prop) → Prop} {σ : Sg} {H : Hp} {fr : Fr} {F : Addr → Prop} {R : Rf → Rf → Fr → Prop} {P : V → V → Hp → Prop} (h0 : FrOk X.K H F σ fr) (h : wa fr fun ra fr1 => wb fr1 fun rb fr2 => R ra rb fr2)
    (k : ∀ ra rb fr2 x y H2 F2, R ra rb fr2 → Stp X.K σ fr F H fr2 F2 H2 → RfOk X.K σ fr2 H2 F2 x ra → RfOk X.K σ fr2 H2 F2 y rb → P x y H2) : semE X wa σ H fun x H1 => semE X wb σ H1 fun y H2 => P x y H2 :=
  ⟨fr, F, _, h0, h, fun ra fr1 x H1 F1 hb s1 o1 n1 => ⟨fr1, F1, _, s1.ok, hb, fun rb fr2 y H2 F2 hR s2 o2 n2 => k ra rb fr2 x y H2 F2 hR (s1.trans h0 s2) (o1.step s1.ok s2) o2⟩⟩
theorem derefs2 {fr : Fr} {ra rb : Rf} {o : Op} {f : List D → RK → Prop} {R : Rf → Fr → Prop} (h : match derefs fr [ra, rb] with | some ds => f ds (fun r => R r fr) | none => False) : ∃ x y, deref fr ra = some x ∧ deref fr rb = some y ∧ f [x, y] fun r => R r fr := by
  unfold derefs at h
  cases e1 : deref fr ra with
  | none => rw [e1] at h; exact h.elim
  | some x =>
    unfold derefs at h
    cases e2 : deref fr rb with
    | none => rw [e1, e2] at h; exact h.elim
    | some y =>
      rw [e1, e2] at h
      exact ⟨x, y, rfl, rfl, h⟩
theorem derefs1 {fr : Fr} {ra : Rf} {f : List D → RK → Prop} {R : Rf → Fr → Prop} (h : match derefs fr [ra] with | some ds => f ds (fun r => R r fr) | none => False) : ∃ x, deref fr ra = some x ∧ f [x] fun r => R r fr := by
  unfold derefs at h
  cases e1 : deref fr ra with
  | none => rw [e1] at h; exact h.elim
  | some x =>
    rw [e1] at h
    exact ⟨x, rfl, h⟩
/-- a reading operation on two parts -/
theorem op2_imp {o : Op} {f : D → D → RK → Prop} {C : WC} {a b : CX} (ho : ∀ ra rb fr R, opW o [ra, rb] fr R → match derefs fr [ra, rb] with | some ds => two f ds (fun r => R r fr) | none => False)
    (σ : Sg) (H : Hp) (Q : VK) (h : semE X (wE C (.op o (.cons a (.cons b .nil)))) σ H Q) : tOp (rdB X f) (semE X (wE C a)) (semE X (wE C b)) σ H Q := by
  obtain ⟨fr, F, R, h0, h, k⟩ := h
  refine sem2 h0 h fun ra rb fr2 x y H2 F2 hR s ox oy => ?_
  obtain ⟨d, e, e1, e2, hf⟩ := derefs2 (o := o) (ho _ _ _ _ hR)
  exact ⟨σ, fr2, F2, d, e, _, s.ok, ox.now s.ok e1, oy.now s.ok e2, hf, fun r v H' F' hr s' o' n' => k r fr2 v H' F' hr (s.trans h0 s') o' (n'.back s)⟩
theorem op1_imp {o : Op} {f : D → RK → Prop} {C : WC} {a : CX} (ho : ∀ ra fr R, opW o [ra] fr R → match derefs fr [ra] with | some ds => one f ds (fun r => R r fr) | none => False)
    {σ : Sg} {H : Hp} {Q : VK} (h : semE X (wE C (.op o (.cons a .nil))) σ H Q) : semE X (wE C a) σ H fun x H1 => rdU X f x H1 Q := by
  obtain ⟨fr, F, R, h0, h, k⟩ := h
  refine sem1 h0 h fun ra fr2 x H2 F2 hR s ox nx => ?_
  obtain ⟨d, e1, hf⟩ := derefs1 (ho _ _ _ hR)
  exact ⟨σ, fr2, F2, d, _, s.ok, ox.now s.ok e1, hf, fun r v H' F' hr s' o' n' => k r fr2 v H' F' hr (s.trans h0 s') o' (n'.back s)⟩
end
/-! ### truth -/
theorem truV_of {K : PySem.W.Frag} {H : Hp} {F : Addr → Prop} {v : V} {d : D} {b : Bool} (h : Now K H F v d) (e : truthy d = some b) : TruV K v H b := by
  cases d with
  | non => cases e; rw [h.non]; rfl
  | bl c => cases e; rw [h.bl]; rfl
  | int i => cases e; rw [h.int]; rfl
  | str x =>
    cases e
    obtain ⟨ev, _, l⟩ := h.str
    rw [ev]
    refine ⟨l, ?_⟩
    cases q : x.length with
    | zero => rfl
    | succ n => simp; omega
  | tup ds =>
    cases e
    obtain ⟨a, vs, rfl, q, r⟩ := h.tup
    refine .inr (.inl ⟨vs, q, ?_⟩)
    cases r <;> rfl
  | lst ds =>
    cases e
    obtain ⟨a, vs, rfl, q, r⟩ := h.lst
    refine .inl ⟨vs, .of q, ?_⟩
    cases r <;> rfl
  | frl ds => cases e
  | dct ks vs =>
    cases e
    obtain ⟨a, kvs, rfl, q, r, _⟩ := h.dct
    refine .inr (.inr ⟨kvs, q, ?_⟩)
    cases kvs with
    | nil => cases r; rfl
    | cons p r' => cases r; rfl
  | set xs => cases e
/-! ### what stands in the text -/
def noStar : Expr → Bool
  | .Starred .. => false
  | _ => true
theorem star_of {e : Expr} {es : List Expr} {env : Env} (h : noStar e = true) : starEach (e :: es) env = (false, eval e env) :: starEach es env := by
  cases e <;> first | rfl | cases h
theorem stars_map {env : Env} : ∀ {es : List Expr}, (∀ e ∈ es, noStar e = true) → starEach es env = es.map fun e => (false, eval e env)
  | [], _ => rfl
  | e :: r, h => by
    rw [star_of (h e List.mem_cons_self), stars_map fun x hx => h x (List.mem_cons_of_mem _ hx)]
    rfl
theorem stars_of {env : Env} {pos : Pos} {es : List Expr} (h : ∀ e ∈ es, noStar e = true) : (backTo pos (starEach es env)).any (·.1) = false := by
  rw [stars_map h]
  unfold backTo
  rw [List.any_map, List.any_map, List.any_eq_false]
  intro x _
  simp
/-- an expression that is tested by its value -/
def plainT : Expr → Bool
  | .UnaryOp .Not _ _ => false
  | .BoolOp .. => false
  | .IfExp .. => false
  | .Compare .. => false
  | _ => true
theorem isTrue_of {a : Expr} {env : Env} (h : plainT a = true) : ∀ whole, isTrue a env whole = (do let v ← whole; standAt a.pos; holding [v] (PySem.truthy v)) := by
  intro whole
  cases a with
  | UnaryOp o x p => cases o <;> first | rfl | cases h
  | BoolOp => cases h
  | IfExp => cases h
  | Compare => cases h
  | _ => rfl
def noSet : Expr → Bool
  | .Set .. => false
  | _ => true
theorem marks_of {b : Expr} {op : CmpOp} (h : noSet b = true) : behindInMarks op b = false := by
  cases b <;> first | rfl | cases h
def noSlice : Expr → Bool
  | .Slice .. => false
  | _ => true
theorem plainIx_of {b : Expr} (h : noSlice b = true) : PlainIx b := by
  intro o i
  cases b <;> first | rfl | cases h
/-- a receiver that is no call without arguments -/
def baseOk : Expr → Bool
  | .Call _ [] [] _ => false
  | _ => true
theorem base_of {o : Expr} {m : Str} {env : Env} (h : baseOk o = true) : attributeBase o m env (eval o env) = eval o env := by
  cases o with
  | Call f as ks p =>
    cases as with
    | nil =>
      cases ks with
      | nil => cases h
      | cons _ _ => cases f <;> rfl
    | cons _ _ => cases f <;> rfl
  | _ => rfl
def noComp : Expr → Bool
  | .ListComp .. => false
  | .SetComp .. => false
  | .DictComp .. => false
  | _ => true
theorem swaps_of {e : Expr} {t : Option Expr} {n : Nat} {env : Env} (h : noComp e = true) : swapsWith e t n env = pure false := by
  cases e <;> first | rfl | cases h
theorem setIter_of {e : Expr} {env : Env} (h : noSet e = true) : ∀ x, foldedSetIterable e env x = pure x := by
  intro x
  cases e <;> first | rfl | cases h
theorem assigns_of {env : Env} : ∀ {es : List Expr}, (∀ e ∈ es, noStar e = true) → assignEach es env = es.map fun e => (false, assign e env)
  | [], _ => rfl
  | e :: r, h => by
    have ih := assigns_of (env := env) (es := r) fun x hx => h x (List.mem_cons_of_mem _ hx)
    have h1 : assignEach (e :: r) env = (false, assign e env) :: assignEach r env := by
      have := h e List.mem_cons_self
      cases e <;> first | rfl | cases this
    rw [h1, ih]
    rfl
end QL
/-! QG: the checker -/
namespace QL
open PySem L2

structure Ctx where
  sc : Scope
  raw : Scope
  N : List Str
  fns : List Str
  bl : List Str
def visB (sc : Scope) (x : Str) : Bool := match sc.names.lookup x with
  | some .local => true
  | some .cell => true
  | some .free => true
  | _ => false
def glB (sc : Scope) (x : Str) : Bool := match sc.names.lookup x with
  | some .globalImplicit => true
  | _ => false
def locB (c : Ctx) (x : Str) : Bool := match c.sc.names.lookup x, c.raw.names.lookup x with
  | some .local, _ => true
  | some .cell, some .cell => true
  | _, _ => false
def plainN (x : Str) : Bool := !(x == ("__debug__" : Str)) && !(x == ("__classdict__" : Str)) && !(x == ("__name__" : Str))
def constOk : D → Const → Bool
  | .non, .none => true
  | .bl b, .bool c => b == c
  | .int i, .int j => decide (i = j)
  | .str x, .str y => decide (x = y) && PyData.strOk x && decide (x.length ≤ 1000)
  | _, _ => false
def opBin : Op → Option Operator
  | .add => some .Add | .sub => some .Sub | .mul => some .Mult | .fdiv => some .FloorDiv | .mod => some .Mod | .pow => some .Pow | .shl => some .LShift | .shr => some .RShift
  | _ => none
def opCmp : Op → Option CmpOp
  | .eq => some .Eq | .ne => some .NotEq | .lt => some .Lt | .le => some .LtE | .gt => some .Gt | .ge => some .GtE | .isin => some .In | .notin => some .NotIn
  | _ => none
def opBlt1 : Op → Option Str
  | .len => some "len" | .toInt => some "int" | .toList => some "list" | .toTup => some "tuple" | .any => some "any" | .all => some "all" | .max1 => some "max" | .min1 => some "min"
  | .sum => some "sum" | .sorted => some "sorted"
  | _ => none
def opBlt2 : Op → Option Str
  | .max2 => some "max" | .min2 => some "min"
  | _ => none
def opMeth0 : Op → Option Str
  | .pop => some "pop" | .reverse => some "reverse"
  | _ => none
def opMeth1 : Op → Option Str
  | .append => some "append" | .join => some "join" | .indexL => some "index" | .indexT => some "index"
  | _ => none
def opMeth2 : Op → Option Str
  | .insert => some "insert"
  | _ => none
def isNoneC : Expr → Bool
  | .Constant .none _ _ => true
  | _ => false
def bltName (c : Ctx) (x : Str) : Bool := c.bl.contains x && glB c.sc x && plainN x
def tyName (c : Ctx) (t : String) : Expr → Bool
  | .Name x _ => decide (x = Str.ofString t) && bltName c x && isiTys.contains t
  | _ => false
def tyNames (c : Ctx) : List String → List Expr → Bool
  | [], [] => true
  | t :: ts, e :: es => tyName c t e && tyNames c ts es
  | _, _ => false
def chkName (c : Ctx) (i : Nat) : Expr → Bool
  | .Name x _ => decide (c.N[i]? = some x) && locB c x
  | _ => false
def chkNames (c : Ctx) : List Nat → List Expr → Bool
  | [], [] => true
  | i :: is, e :: es => chkName c i e && chkNames c is es
  | _, _ => false
def chkT (c : Ctx) : CT → Expr → Bool
  | .n i, e => chkName c i e
  | .t is, .Tuple es _ _ => es.all noStar && chkNames c is es
  | .t2 i is, .Tuple [e, .Tuple es _ _] _ _ => chkName c i e && es.all noStar && chkNames c is es
  | _, _ => false
def ctIn (os : List Nat) : CT → Bool
  | .n i => os.contains i
  | .t is => is.all os.contains
  | .t2 i is => os.contains i && is.all os.contains
def isTupE : Expr → Bool
  | .Tuple .. => true
  | _ => false
def inner (c : Ctx) (scope : Scope) : Ctx := { c with sc := relS scope c.sc, raw := scope }
def ownOf (c : Ctx) (os : List Nat) : List (Str × Nat) := os.map fun i => (c.N.getD i Str.empty, i)
def isCall (x : Str) : Expr → Bool
  | .Call (.Name y _) _ _ _ => x == y
  | _ => false
mutual
def chkE (c : Ctx) : CX → Expr → Bool
  | .k d, e => match e with
    | .Constant k _ _ => constOk d k
    | _ => false
  | .v i, e => match e with
    | .Name x _ => decide (c.N[i]? = some x) && visB c.sc x && plainN x
    | _ => false
  | .fz a, e => chkE c a e
  | .op o es, e => match e with
    | .BinOp l b r _ => decide (opBin o = some b) && chkEs c es [l, r]
    | .UnaryOp .USub l _ => decide (o = .neg) && chkEs c es [l]
    | .Compare l [co] [r] _ => (decide (opCmp o = some co) && noSet r && chkEs c es [l, r]) || (isNoneC r && ((decide (o = .isN) && decide (co = .Is)) || (decide (o = .notN) && decide (co = .IsNot))) && chkEs c es [l])
    | .Call (.Name x _) [l] [] _ => (decide (opBlt1 o = some x) && bltName c x && chkEs c es [l]) || (match l with
      | .Call (.Name y _) [l2] [] _ => (decide (o = .sortSet) && decide (x = "sorted") && decide (y = "set") && bltName c x && bltName c y && chkEs c es [l2]) || (decide (o = .lrng) && decide (x = "list") && decide (y = "range") && bltName c x && bltName c y && chkEs c es [l2])
      | _ => false)
    | .Call (.Name x _) [l, t] [] _ => (decide (opBlt2 o = some x) && bltName c x && chkEs c es [l, t]) || (decide (x = "isinstance") && bltName c x && chkEs c es [l] && noStar t && (match o with
        | .isi [ty] true => tyName c ty t
        | .isi tys false => (match t with
          | .Tuple ts _ _ => tyNames c tys ts && decide (ts.length ≤ 10)
          | _ => false)
        | _ => false))
    | .Subscript a i _ => match i with
      | .Slice none none none _ => decide (o = .slAll) && chkEs c es [a]
      | .Slice (some l) none none _ => decide (o = .slLo) && chkEs c es [a, l]
      | .Slice none (some h) none _ => decide (o = .slHi) && chkEs c es [a, h]
      | .Slice none none (some (.UnaryOp .USub (.Constant (.int 1) _ _) _)) _ => decide (o = .slRev) && chkEs c es [a]
      | .Slice .. => false
      | i => decide (o = .ix) && chkEs c es [a, i]
    | _ => false
  | .mt o a es, e => match e with
    | .Call (.Attribute r m apos) args [] pos => (apos.endLine == pos.line) && baseOk r && (match args with
        | [] => decide (opMeth0 o = some m)
        | [_] => decide (opMeth1 o = some m)
        | [_, _] => decide (opMeth2 o = some m)
        | _ => false) && chkE c a r && chkEs c es args
    | _ => false
  | .sl2 a lo hi, e => match e with
    | .Subscript x (.Slice (some l) (some h) none _) _ => chkE c a x && chkE c lo l && chkE c hi h
    | _ => false
  | .and a b, e => match e with
    | .BoolOp .And (x :: y :: r) p => chkE c a x && (match r with
      | [] => chkE c b y
      | _ => chkE c b (.BoolOp .And (y :: r) p))
    | _ => false
  | .or a b, e => match e with
    | .BoolOp .Or (x :: y :: r) p => chkE c a x && (match r with
      | [] => chkE c b y
      | _ => chkE c b (.BoolOp .Or (y :: r) p))
    | _ => false
  | .not a, e => match e with
    | .UnaryOp .Not x _ => chkE c a x
    | _ => false
  | .ife t a b, e => match e with
    | .IfExp x y z _ => chkE c t x && chkE c a y && chkE c b z
    | _ => false
  | .tup es, e => match e with
    | .Tuple l _ _ => chkEs c es l
    | _ => false
  | .lst es, e => match e with
    | .List l _ => chkEs c es l
    | _ => false
  | .call f es, e => match e with
    | .Call (.Name x _) args [] _ => decide (c.fns[f]? = some x) && glB c.sc x && plainN x && !args.isEmpty && chkEs c es args
    | _ => false
  | .lc os t it co a, e => match e with
    | .ListComp elt [⟨tg, iter, ifs, 0⟩] scope _ => blkC c.N c.sc scope (ownOf c os) && ctIn os t && noSet iter && chkI c it tg iter && chkT (inner c scope) t tg && chkO (inner c scope) co ifs && chkE (inner c scope) a elt
    | _ => false
  | .ssc os t it co a, e => match e with
    | .Call (.Name x _) [.SetComp elt [⟨tg, iter, ifs, 0⟩] scope _] [] _ => decide (x = "sorted") && bltName c x && blkC c.N c.sc scope (ownOf c os) && ctIn os t && noSet iter && chkI c it tg iter && chkT (inner c scope) t tg && chkO (inner c scope) co ifs && chkE (inner c scope) a elt
    | _ => false
def chkEs (c : Ctx) : CXs → List Expr → Bool
  | .nil, l => match l with
    | [] => true
    | _ => false
  | .cons a r, l => match l with
    | e :: es => noStar e && chkE c a e && chkEs c r es
    | _ => false
def chkO (c : Ctx) : CO → List Expr → Bool
  | .none, l => match l with
    | [] => true
    | _ => false
  | .some a, l => match l with
    | [e] => chkE c a e
    | _ => false
def chkI (c : Ctx) : CI → Expr → Expr → Bool
  | .seq a, _, e => chkE c a e
  | .rng1 a, _, e => match e with
    | .Call (.Name x _) [l] [] _ => decide (x = "range") && bltName c x && noStar l && chkE c a l
    | _ => false
  | .rng2 a b, _, e => match e with
    | .Call (.Name x _) [l, r] [] _ => decide (x = "range") && bltName c x && noStar l && noStar r && chkE c a l && chkE c b r
    | _ => false
  | .enum a, t, e => match e with
    | .Call (.Name x _) [l] [] _ => decide (x = "enumerate") && bltName c x && isTupE t && noStar l && chkE c a l
    | _ => false
  | .zip a b, t, e => match e with
    | .Call (.Name x _) [l, r] [] _ => decide (x = "zip") && bltName c x && isTupE t && noStar l && noStar r && chkE c a l && chkE c b r
    | _ => false
end
def scopeOf : Expr → Option Scope
  | .ListComp _ _ s _ => some s
  | .SetComp _ _ s _ => some s
  | .DictComp _ _ _ s _ => some s
  | _ => none
/-- the value is not stored by the comprehension itself -/
def noSwap (c : Ctx) (tg e : Expr) : Bool := match scopeOf e, tg with
  | none, _ => true
  | some s, .Name t p => !(decide (c.sc.names.lookup t = some .local) && p.line == e.pos.line && !(s.names.any fun (n, k) => n == t && (k == .local || k == .cell)))
  | some _, _ => true
mutual
def chkS (c : Ctx) : CS → Stmt → Bool
  | .set t a, s => match s with
    | .Assign [tg] e _ => chkT c t tg && noSwap c tg e && noStar tg && (!(isTupE tg && isTupE e)) && chkE c a e
    | _ => false
  | .setLc i a, s => match s with
    | .Assign [.Name y py] (.ListComp elt [⟨tg, iter, ifs, 0⟩] scope pos) _ => chkName c i (.Name y py) && decide (c.sc.kind = .function) && decide (c.sc.names.lookup y = some .local) && (py.line == pos.line) && !(scope.names.any fun (n, k) => n == y && (k == .local || k == .cell)) && (match a with
      | .lc os t it co b => blkC c.N c.sc scope (ownOf c os) && ctIn os t && noSet iter && chkI c it tg iter && chkT (inner c scope) t tg && chkO (inner c scope) co ifs && chkE (inner c scope) b elt
      | _ => false)
    | _ => false
  | .setIx o i a, s => match s with
    | .Assign [.Subscript eo ei _] e _ => noComp e && noSlice ei && chkE c o eo && chkE c i ei && chkE c a e
    | _ => false
  | .ex a, s => match s with
    | .Expr e _ => noComp e && chkE c a e
    | _ => false
  | .ret a, s => match s with
    | .Return (some e) _ => chkE c a e
    | _ => false
  | .retN, s => match s with
    | .Return none _ => true
    | _ => false
  | .aug i o a, s => match s with
    | .AugAssign t b e _ => chkName c i t && ((decide (o = .add) && decide (b = .Add)) || (decide (o = .sub) && decide (b = .Sub))) && chkE c a e
    | _ => false
  | .ite t a b, s => match s with
    | .If e x y _ => chkE c t e && chkSs c a x && chkSs c b y
    | _ => false
  | .for t it b, s => match s with
    | .For tg iter body [] _ => noSet iter && chkI c it tg iter && chkT c t tg && chkSs c b body
    | _ => false
  | .whl t b, s => match s with
    | .While e body [] _ => chkE c t e && chkSs c b body
    | _ => false
  | .brk, s => match s with
    | .Break _ => true
    | _ => false
  | .cnt, s => match s with
    | .Continue _ => true
    | _ => false
  | .pass, s => match s with
    | .Pass _ => true
    | _ => false
  | .fof _ t it b, s => match s with
    | .For tg iter body [] _ => noSet iter && chkI c it tg iter && chkT c t tg && chkSs c b body
    | _ => false
  | .whf _ t b, s => match s with
    | .While e body [] _ => chkE c t e && chkSs c b body
    | _ => false
def chkSs (c : Ctx) : CSs → List Stmt → Bool
  | .nil, l => match l with
    | [] => true
    | _ => false
  | .cons a r, l => match l with
    | e :: es => chkS c a e && chkSs c r es
    | _ => false
  | .fgt _ r, l => chkSs c r l
  | .frz _ r, l => chkSs c r l
end
end QL
set_option maxHeartbeats 1200000
/-! QH: the checker is sound: expressions -/
namespace QL
open PySem L2

/-- a call's end: what the callee leaves -/
structure CallPost (K : PySem.W.Frag) (vs : List V) (ss : List Sl) (F : Addr → Prop) (H : Hp) (r : Rf) (outs : List Sl) (v : V) (F' : Addr → Prop) (H' : Hp) : Prop where
  fh : ∀ a, F' a → H' a ≠ none
  le : ∀ a, F a → F' a
  new : ∀ a, F' a → F a ∨ H a = none ∨ OwnF ss (vs.map some) a
  keep : ∀ a, H a ≠ none → ¬ Own ss (vs.map some) a → H' a = H a
  alive : ∀ a, H a ≠ none → H' a ≠ none
  back : ∀ (i : Nat) (d : D), ss[i]? = some (.own true d) → ∃ (d' : D) (a : Addr), outs[i]? = some (.own true d') ∧ vs[i]? = some (.ref a) ∧ ¬ F' a ∧ OwnRel K H' F' a d'
  len : outs.length = ss.length
  res : match r with
    | .val d => Rep K H' F' v d
    | .tmp d => ∃ a, v = .ref a ∧ ¬ F' a ∧ OwnRel K H' F' a d ∧ (H a = none ∨ OwnF ss (vs.map some) a) ∧ ∀ (i : Nat) (d : D), ss[i]? = some (.own true d) → vs[i]? ≠ some (.ref a)
    | .bor _ => False
/-- what a def of the table promises -/
def spC (K : PySem.W.Frag) (np : Nat) (w : List Sl → (Rf → List Sl → Prop) → Prop) : Sp := fun vs H Q _ => ∃ (F : Addr → Prop) (ss : List Sl) (R : Rf → List Sl → Prop), vs.length = np ∧ FrOk K H F (vs.map some) ss ∧ w ss R ∧
  ∀ r outs v F' H', R r outs → CallPost K vs ss F H r outs v F' H' → Q v H'

structure CtxOk (C : WC) (X : Cx) (c : Ctx) : Prop where
  sc : X.env.scope = c.sc
  N : X.N = c.N
  nd : c.N.Nodup
  calm : X.calm = true
  fn : ∀ x, c.raw.names.lookup x = some .cell → X.fn x = true
  bl : ∀ x ∈ c.bl, X.mg x = none
  fns : ∃ k, Room k X.A ∧ ∀ (f : Nat) (x : Str), c.fns[f]? = some x → ∃ (a : Addr) (fd : FuncData) (ps : List Str), X.mg x = some (.ref a) ∧ PySem.W.keepIn X.K (.ref a) = true ∧ Binds X.K fd ps [] ∧ (∀ ss R, C f ss R → ss.length = ps.length) ∧
    FnOk X.prog X.w X.K X.mg X.base CX0 k a fd ps (spC X.K ps.length (C f))
  xe : X.xe = fun _ _ => False

section
variable {C : WC} {X : Cx} {c : Ctx}
theorem CtxOk.units (ok : CtxOk C X c) : X.A.units + 65 < cLine := by
  obtain ⟨k, hr, _⟩ := ok.fns
  have h1 := hr.un
  have h2 : (cLine : Nat) = 9900 := rfl
  omega
theorem CtxOk.vis (ok : CtxOk C X c) {x : Str} (h : visB c.sc x = true) : Vis X.env.scope x := by
  rw [ok.sc]
  unfold visB at h
  unfold Vis
  split at h
  · rename_i e; exact .inl e
  · rename_i e; exact .inr (.inl e)
  · rename_i e; exact .inr (.inr e)
  · cases h
theorem CtxOk.gl (ok : CtxOk C X c) {x : Str} (h : glB c.sc x = true) : Gl X x := by
  show X.env.scope.names.lookup x = _
  rw [ok.sc]
  unfold glB at h
  split at h
  · rename_i e; exact e
  · cases h
theorem CtxOk.loc (ok : CtxOk C X c) {x : Str} (h : locB c x = true) : L2.Loc X.env.scope x ∧ (X.fn x = true ∨ X.env.scope.names.lookup x = some .local) := by
  rw [ok.sc]
  unfold locB at h
  unfold L2.Loc
  split at h
  · rename_i e; exact ⟨.inl e, .inr e⟩
  · rename_i e1 e2; exact ⟨.inr e1, .inl (ok.fn x e2)⟩
  · cases h
theorem plainN_ne {x : Str} (h : plainN x = true) : (x == ("__debug__" : Str)) = false ∧ (x == ("__classdict__" : Str)) = false ∧ x ≠ "__name__" := by
  unfold plainN at h
  simp only [Bool.not_eq_true', Bool.and_eq_true] at h
  exact ⟨h.1.1, h.1.2, fun e => by rw [e] at h; simp at h⟩
theorem CtxOk.blt (ok : CtxOk C X c) {x : Str} (h : bltName c x = true) : X.mg x = none ∧ Gl X x ∧ plainN x = true := by
  unfold bltName at h
  rw [Bool.and_eq_true, Bool.and_eq_true] at h
  obtain ⟨⟨h1, h2⟩, h3⟩ := h
  exact ⟨ok.bl x (by simpa using h1), ok.gl h2, h3⟩
/-! ### lists of expressions -/
def SEL (C : WC) (X : Cx) : CXs → List Expr → Prop
  | .nil, [] => True
  | .cons a r, e :: es => noStar e = true ∧ PE X e (semE X (wE C a)) ∧ SEL C X r es
  | _, _ => False
theorem SEL.stars : ∀ {es : CXs} {l : List Expr}, SEL C X es l → ∀ e ∈ l, noStar e = true
  | .nil, [], _ => fun e he => by cases he
  | .cons a r, e :: es, h => fun x hx => by
    rcases List.mem_cons.1 hx with rfl | hx
    · exact h.1
    · exact SEL.stars h.2.2 x hx
  | .nil, _ :: _, h => h.elim
  | .cons _ _, [], h => h.elim
theorem SEL.two {es : CXs} {l r : Expr} (h : SEL C X es [l, r]) : ∃ a b, es = .cons a (.cons b .nil) ∧ PE X l (semE X (wE C a)) ∧ PE X r (semE X (wE C b)) ∧ noStar l = true ∧ noStar r = true := by
  match es, h with
  | .cons a (.cons b .nil), h => exact ⟨a, b, rfl, h.2.1, h.2.2.2.1, h.1, h.2.2.1⟩
theorem SEL.one {es : CXs} {l : Expr} (h : SEL C X es [l]) : ∃ a, es = .cons a .nil ∧ PE X l (semE X (wE C a)) ∧ noStar l = true := by
  match es, h with
  | .cons a .nil, h => exact ⟨a, rfl, h.2.1, h.1⟩
theorem SEL.three {es : CXs} {l r t : Expr} (h : SEL C X es [l, r, t]) : ∃ a b d, es = .cons a (.cons b (.cons d .nil)) ∧ PE X l (semE X (wE C a)) ∧ PE X r (semE X (wE C b)) ∧ PE X t (semE X (wE C d)) := by
  match es, h with
  | .cons a (.cons b (.cons d .nil)), h => exact ⟨a, b, d, rfl, h.2.1, h.2.2.2.1, h.2.2.2.2.2.1⟩
theorem pa_of : ∀ {es : CXs} {l : List Expr}, SEL C X es l → PA X l (semEs X (wEs C es))
  | .nil, [], _ => pa_imp pa_nil fun σ H Q h => by
    obtain ⟨fr, F, R, h0, h, k⟩ := h
    exact k [] fr [] H F h (Stp.refl h0) .nil
  | .cons a r, e :: es, h => by
    refine pa_imp (pa_cons h.2.1 (pa_of h.2.2) (star_of h.1)) fun σ H Q q => ?_
    obtain ⟨fr, F, R, h0, q, k⟩ := q
    refine sem1 h0 q fun x fr1 v H1 F1 hR s1 o1 n1 => ?_
    refine ⟨fr1, F1, _, s1.ok, hR, fun xs fr2 vs H2 F2 hR2 s2 o2 => ?_⟩
    refine k (x :: xs) fr2 (v :: vs) H2 F2 hR2 (s1.trans h0 s2) (.cons (o1.step s1.ok s2) n1 (fun d e1 j d' e2 e3 => ?_) (o2.back s1))
    obtain ⟨p, e4, hp⟩ := o2.new e2 e3
    subst e1
    obtain ⟨p', e5, _, _, r5⟩ := o1
    rw [e4] at e5; cases e5
    exact r5.some hp
  | .nil, _ :: _, h => h.elim
  | .cons _ _, [], h => h.elim
theorem pz_of : ∀ {es : CXs} {l : List Expr}, SEL C X es l → PA X l (semZ X (wZ C es))
  | .nil, [], _ => pa_imp pa_nil fun σ H Q h => by
    obtain ⟨fr, F, R, h0, h, k⟩ := h
    exact k [] fr [] H F h (Stp.refl h0) .nil
  | .cons a r, e :: es, h => by
    refine pa_imp (pa_cons h.2.1 (pz_of h.2.2) (star_of h.1)) fun σ H Q q => ?_
    obtain ⟨fr, F, R, h0, q, k⟩ := q
    refine sem1 h0 q fun x fr1 v H1 F1 hR s1 o1 n1 => ?_
    cases e1 : frz fr1 x with
    | none => rw [e1] at hR; exact hR.elim
    | some p =>
      obtain ⟨d, fr2⟩ := p
      rw [e1] at hR
      obtain ⟨F2, s2, rv⟩ := Stp.freeze h0 s1 o1 n1 e1
      refine ⟨fr2, F2, _, s2.ok, hR, fun ds fr3 vs H3 F3 hR2 s3 r3 => ?_⟩
      exact k (d :: ds) fr3 (v :: vs) H3 F3 hR2 (s2.trans h0 s3) (.cons (rv.mono s3.le (s3.fkeep s2.ok)) r3)
  | .nil, _ :: _, h => h.elim
  | .cons _ _, [], h => h.elim

/-! ### operations -/
theorem and_of {a b : Bool} (h : (a && b) = true) : a = true ∧ b = true := by simpa using h
theorem or_of {a b : Bool} (h : (a || b) = true) : a = true ∨ b = true := by simpa using h
theorem bin_sound (ok : CtxOk C X c) {o : Op} {b : Operator} {es : CXs} {l r : Expr} {pos : Pos} (ho : opBin o = some b) (h : SEL C X es [l, r]) : PE X (.BinOp l b r pos) (semE X (wE C (.op o es))) := by
  obtain ⟨a, d, rfl, ha, hd, _, _⟩ := h.two
  cases o <;> first | (cases ho; done) | skip
  all_goals cases ho
  · exact pe_imp (pe_op orB_add ha hd) (op2_imp fun _ _ _ _ z => z)
  · exact pe_imp (pe_op (or_int0 op_sub) ha hd) (op2_imp fun _ _ _ _ z => z)
  · exact pe_imp (pe_op orB_mul ha hd) (op2_imp fun _ _ _ _ z => z)
  · exact pe_imp (pe_op (or_int op_fdiv) ha hd) (op2_imp fun _ _ _ _ z => z)
  · exact pe_imp (pe_op (or_int op_mod) ha hd) (op2_imp fun _ _ _ _ z => z)
  · exact pe_imp (pe_op (or_int op_pow) ha hd) (op2_imp fun _ _ _ _ z => z)
  · exact pe_imp (pe_op (or_int op_shl) ha hd) (op2_imp fun _ _ _ _ z => z)
  · exact pe_imp (pe_op (or_int op_shr) ha hd) (op2_imp fun _ _ _ _ z => z)
/-- the comparison's rule by values -/
def cmpW : Op → D → D → RK → Prop
  | .eq => eqW false
  | .ne => eqW true
  | .lt => ltW
  | .gt => gtW
  | .le => onI fun i j Q => Q (.val (.bl (decide (i ≤ j))))
  | .ge => onI fun i j Q => Q (.val (.bl (decide (j ≤ i))))
  | .isin => fun x y Q => inW x y fun b => Q (.val (.bl b))
  | .notin => fun x y Q => inW x y fun b => Q (.val (.bl (!b)))
  | _ => fun _ _ _ => False
theorem cmp_rule (ok : CtxOk C X c) {o : Op} {b : CmpOp} (ho : opCmp o = some b) : OpR X (compareOp b) (rdB X (cmpW o)) := by
  have hu := ok.units
  cases o <;> first | (cases ho; done) | skip
  all_goals cases ho
  · exact orB_eq hu
  · exact orB_ne hu
  · exact orB_lt
  · exact or_bl0 op_le
  · exact orB_gt
  · exact or_bl0 op_ge
  · exact orB_in hu
  · exact orB_notin hu
theorem cmp_opW {o : Op} {b : CmpOp} (ho : opCmp o = some b) : ∀ ra rb fr R, opW o [ra, rb] fr R → match derefs fr [ra, rb] with | some ds => two (cmpW o) ds (fun r => R r fr) | none => False := by
  cases o <;> first | (cases ho; done) | skip
  all_goals exact fun _ _ _ _ z => z
theorem cmp_shape {o : Op} : ∀ {x y : D} {R : RK}, cmpW o x y R → cmpW o x y fun r => (∃ k, r = .val (.bl k)) ∧ R r := by
  intro x y R h
  cases o <;> first | exact h.elim | skip
  · exact ⟨h.1, h.2.1, ⟨_, rfl⟩, h.2.2⟩
  · exact ⟨h.1, h.2.1, ⟨_, rfl⟩, h.2.2⟩
  · cases x <;> cases y <;> first | exact h.elim | exact ⟨⟨_, rfl⟩, h⟩
  · cases x <;> cases y <;> first | exact h.elim | exact ⟨⟨_, rfl⟩, h⟩
  · cases x <;> cases y <;> first | exact h.elim | exact ⟨⟨_, rfl⟩, h⟩
  · cases x <;> cases y <;> first | exact h.elim | exact ⟨⟨_, rfl⟩, h⟩
  · cases y <;> first | exact h.elim | exact ⟨h.1, h.2.1, ⟨_, rfl⟩, h.2.2⟩
  · cases y <;> first | exact h.elim | exact ⟨h.1, h.2.1, ⟨_, rfl⟩, h.2.2⟩
theorem cmp_sound (ok : CtxOk C X c) {o : Op} {b : CmpOp} {es : CXs} {l r : Expr} {pos : Pos} (ho : opCmp o = some b) (h : SEL C X es [l, r]) (hs : noSet r = true) : PE X (.Compare l [b] [r] pos) (semE X (wE C (.op o es))) := by
  obtain ⟨a, d, rfl, ha, hd, _, _⟩ := h.two
  exact pe_imp (pe_cmpR (cmp_rule ok ho) ha hd (marks_of hs)) (op2_imp (cmp_opW ho))
theorem isN_sound (ok : CtxOk C X c) {es : CXs} {l r : Expr} {pos : Pos} (hr : isNoneC r = true) (h : SEL C X es [l]) : PE X (.Compare l [.Is] [r] pos) (semE X (wE C (.op .isN es))) := by
  obtain ⟨a, rfl, ha, _⟩ := h.one
  cases r with
  | Constant k _ _ =>
    cases k <;> first | (cases hr; done) | skip
    refine pe_imp (pe_cmp (pc_isN ha)) fun σ H Q q => ?_
    obtain ⟨fr, F, R, h0, q, k⟩ := q
    refine sem1 h0 q fun ra fr2 x H2 F2 hR s ox nx => ?_
    obtain ⟨d, e1, hf⟩ := derefs1 (f := one (isNW false)) hR
    have hx := ox.now s.ok e1
    have fin : ∀ b, R (.val (.bl b)) fr2 → Q (.bl b) H2 := fun b hb => k _ fr2 _ H2 F2 hb s (.bl b) trivial
    cases d with
    | non => rw [hx.non]; exact fin true hf
    | bl b => rw [hx.bl]; exact fin false hf
    | int b => rw [hx.int]; exact fin false hf
    | str b => rw [hx.str.1]; exact fin false hf
    | tup b => obtain ⟨a, _, rfl, _⟩ := hx.tup; exact fin false hf
    | lst b => obtain ⟨a, _, rfl, _⟩ := hx.lst; exact fin false hf
    | frl b => obtain ⟨a, _, rfl, _⟩ := hx.frl; exact fin false hf
    | dct b b' => obtain ⟨a, _, rfl, _⟩ := hx.dct; exact fin false hf
    | set b =>
      rcases hx with hx | ⟨_, _, hx⟩
      · cases hx
      · exact hx.elim
  | _ => cases hr
theorem notN_sound (ok : CtxOk C X c) {es : CXs} {l r : Expr} {pos : Pos} (hr : isNoneC r = true) (h : SEL C X es [l]) : PE X (.Compare l [.IsNot] [r] pos) (semE X (wE C (.op .notN es))) := by
  obtain ⟨a, rfl, ha, _⟩ := h.one
  cases r with
  | Constant k _ _ =>
    cases k <;> first | (cases hr; done) | skip
    refine pe_imp (pe_cmp (pc_notN ha)) fun σ H Q q => ?_
    obtain ⟨fr, F, R, h0, q, k⟩ := q
    refine sem1 h0 q fun ra fr2 x H2 F2 hR s ox nx => ?_
    obtain ⟨d, e1, hf⟩ := derefs1 (f := one (isNW true)) hR
    have hx := ox.now s.ok e1
    have fin : ∀ b, R (.val (.bl b)) fr2 → Q (.bl b) H2 := fun b hb => k _ fr2 _ H2 F2 hb s (.bl b) trivial
    cases d with
    | non => rw [hx.non]; exact fin false hf
    | bl b => rw [hx.bl]; exact fin true hf
    | int b => rw [hx.int]; exact fin true hf
    | str b => rw [hx.str.1]; exact fin true hf
    | tup b => obtain ⟨a, _, rfl, _⟩ := hx.tup; exact fin true hf
    | lst b => obtain ⟨a, _, rfl, _⟩ := hx.lst; exact fin true hf
    | frl b => obtain ⟨a, _, rfl, _⟩ := hx.frl; exact fin true hf
    | dct b b' => obtain ⟨a, _, rfl, _⟩ := hx.dct; exact fin true hf
    | set b =>
      rcases hx with hx | ⟨_, _, hx⟩
      · cases hx
      · exact hx.elim
  | _ => cases hr

theorem sem_mono {w : Fr → (Rf → Fr → Prop) → Prop} {σ : Sg} {H : Hp} {P P' : V → Hp → Prop} (h : semE X w σ H P) (k : ∀ v H', P v H' → P' v H') : semE X w σ H P' := by
  obtain ⟨fr, F, R, h0, q, z⟩ := h
  exact ⟨fr, F, R, h0, q, fun r fr' v H' F' a b c d => k v H' (z r fr' v H' F' a b c d)⟩
/-! ### built-in functions -/
theorem blt1 (ok : CtxOk C X c) {o : Op} {f : D → RK → Prop} {id : String} {x : Str} {es : CXs} {l : Expr} {p pos : Pos} (hc : CallR X (.builtin id) (rdC1 X f)) (hv : bootBuiltins x = some (.builtin id)) (hb : bltName c x = true)
    (ho : ∀ ra fr R, opW o [ra] fr R → match derefs fr [ra] with | some ds => one f ds (fun r => R r fr) | none => False) (h : SEL C X es [l]) : PE X (.Call (.Name x p) [l] [] pos) (semE X (wE C (.op o es))) := by
  obtain ⟨hm, hg, hp⟩ := ok.blt hb
  obtain ⟨n1, n2, n3⟩ := plainN_ne hp
  obtain ⟨a, rfl, ha, hs⟩ := h.one
  exact pe_imp (pe_callB hc hg hm hv (pa_cons ha pa_nil (star_of hs)) n3 n1 (star_of hs) (stars_of fun e he => by cases he)) fun σ H Q q => sem_mono (op1_imp ho q) fun v H' z => ⟨v, rfl, z⟩
theorem blty1 (ok : CtxOk C X c) {o : Op} {f : D → RK → Prop} {id : String} {x : Str} {es : CXs} {l : Expr} {p pos : Pos} (hc : CallR X (.type id) (rdC1 X f)) (hv : bootBuiltins x = some (.type id)) (hb : bltName c x = true)
    (ho : ∀ ra fr R, opW o [ra] fr R → match derefs fr [ra] with | some ds => one f ds (fun r => R r fr) | none => False) (h : SEL C X es [l]) : PE X (.Call (.Name x p) [l] [] pos) (semE X (wE C (.op o es))) := by
  obtain ⟨hm, hg, hp⟩ := ok.blt hb
  obtain ⟨n1, n2, n3⟩ := plainN_ne hp
  obtain ⟨a, rfl, ha, hs⟩ := h.one
  exact pe_imp (pe_callTy hc hg hm hv (pa_cons ha pa_nil (star_of hs)) n3 n1 (star_of hs) (stars_of fun e he => by cases he)) fun σ H Q q => sem_mono (op1_imp ho q) fun v H' z => ⟨v, rfl, z⟩
theorem blt2 (ok : CtxOk C X c) {o : Op} {f : D → D → RK → Prop} {id : String} {x : Str} {es : CXs} {l r : Expr} {p pos : Pos} (hc : CallR X (.builtin id) (rdC2 X f)) (hv : bootBuiltins x = some (.builtin id)) (hb : bltName c x = true)
    (ho : ∀ ra rb fr R, opW o [ra, rb] fr R → match derefs fr [ra, rb] with | some ds => two f ds (fun r => R r fr) | none => False) (h : SEL C X es [l, r]) : PE X (.Call (.Name x p) [l, r] [] pos) (semE X (wE C (.op o es))) := by
  obtain ⟨hm, hg, hp⟩ := ok.blt hb
  obtain ⟨n1, n2, n3⟩ := plainN_ne hp
  obtain ⟨a, b, rfl, ha, hb', hs, hs2⟩ := h.two
  refine pe_imp (pe_callB hc hg hm hv (pa_cons ha (pa_cons hb' pa_nil (star_of hs2)) (star_of hs)) n3 n1 (star_of hs) (stars_of fun e he => ?_)) fun σ H Q q => sem_mono (op2_imp ho σ H Q q) fun v H' z => sem_mono z fun v' H2 z' => ⟨v, v', rfl, z'⟩
  rcases List.mem_cons.1 he with rfl | he
  · exact hs2
  · cases he
theorem blt1_sound (ok : CtxOk C X c) {o : Op} {x : Str} {es : CXs} {l : Expr} {p pos : Pos} (ho : opBlt1 o = some x) (hb : bltName c x = true) (h : SEL C X es [l]) : PE X (.Call (.Name x p) [l] [] pos) (semE X (wE C (.op o es))) := by
  have hc := ok.calm
  cases o <;> first | (cases ho; done) | skip
  all_goals cases ho
  · exact blt1 ok rC_len (by decide +kernel) hb (fun _ _ _ z => z) h
  · exact blty1 ok rC_toInt (by decide +kernel) hb (fun _ _ _ z => z) h
  · exact blty1 ok rC_toList (by decide +kernel) hb (fun _ _ _ z => z) h
  · exact blty1 ok rC_toTup (by decide +kernel) hb (fun _ _ _ z => z) h
  · exact blt1 ok (rC_sum hc) (by decide +kernel) hb (fun _ _ _ z => z) h
  · exact blt1 ok (rC_max1 hc) (by decide +kernel) hb (fun _ _ _ z => z) h
  · exact blt1 ok (rC_min1 hc) (by decide +kernel) hb (fun _ _ _ z => z) h
  · exact blt1 ok (rC_any hc) (by decide +kernel) hb (fun _ _ _ z => z) h
  · exact blt1 ok (rC_all hc) (by decide +kernel) hb (fun _ _ _ z => z) h
  · exact blt1 ok rC_sorted (by decide +kernel) hb (fun _ _ _ z => z) h
theorem blt2_sound (ok : CtxOk C X c) {o : Op} {x : Str} {es : CXs} {l r : Expr} {p pos : Pos} (ho : opBlt2 o = some x) (hb : bltName c x = true) (h : SEL C X es [l, r]) : PE X (.Call (.Name x p) [l, r] [] pos) (semE X (wE C (.op o es))) := by
  have hc := ok.calm
  cases o <;> first | (cases ho; done) | skip
  all_goals cases ho
  · exact blt2 ok (rC_max2 hc) (by decide +kernel) hb (fun _ _ _ _ z => z) h
  · exact blt2 ok (rC_min2 hc) (by decide +kernel) hb (fun _ _ _ _ z => z) h
/-! ### isinstance -/
theorem ty_boot : ∀ t ∈ isiTys, bootBuiltins (Str.ofString t) = some (.type t) := by decide +kernel
theorem tyName_sound (ok : CtxOk C X c) {t : String} {e : Expr} (h : tyName c t e = true) : PE X e (tC (.ty t)) ∧ noStar e = true ∧ t ∈ isiTys := by
  cases e with
  | Name x p =>
    unfold tyName at h
    simp only [decide_eq_true_eq, Bool.and_eq_true] at h
    obtain ⟨⟨rfl, h2⟩, h3⟩ := h
    obtain ⟨hm, hg, hp⟩ := ok.blt h2
    obtain ⟨n1, n2, n3⟩ := plainN_ne hp
    have ht : t ∈ isiTys := by simpa using h3
    exact ⟨pe_bltn hg hm (ty_boot t ht) rfl n3 n1, rfl, ht⟩
  | _ => cases h
def tTys : List String → TA
  | [] => tNil
  | t :: ts => tCons (tC (.ty t)) (tTys ts)
theorem tyNames_sound (ok : CtxOk C X c) : ∀ {ts : List String} {es : List Expr}, tyNames c ts es = true → PA X es (tTys ts) ∧ ∀ t ∈ ts, t ∈ isiTys
  | [], [], _ => ⟨pa_nil, fun t ht => by cases ht⟩
  | t :: ts, e :: es, h => by
    obtain ⟨h1, h2⟩ := and_of h
    obtain ⟨p1, s1, m1⟩ := tyName_sound ok h1
    obtain ⟨p2, m2⟩ := tyNames_sound ok h2
    refine ⟨pa_cons p1 p2 (star_of s1), fun x hx => ?_⟩
    rcases List.mem_cons.1 hx with rfl | hx
    · exact m1
    · exact m2 x hx
  | [], _ :: _, h => by cases h
  | _ :: _, [], h => by cases h
theorem tTys_eval {σ : Sg} {H : Hp} {Q : List V → Hp → Prop} : ∀ {ts : List String}, Q (ts.map V.ty) H → tTys ts σ H Q := by
  intro ts
  induction ts generalizing Q with
  | nil => exact fun h => h
  | cons t ts ih =>
    intro h
    show tTys ts σ H fun xs H2 => Q (.ty t :: xs) H2
    exact ih h
theorem isi1_sound (ok : CtxOk C X c) {ty : String} {es : CXs} {l t : Expr} {p pos : Pos} (hb : bltName c "isinstance" = true) (h : SEL C X es [l]) (ht : tyName c ty t = true) : PE X (.Call (.Name "isinstance" p) [l, t] [] pos) (semE X (wE C (.op (.isi [ty] true) es))) := by
  obtain ⟨hm, hg, hp⟩ := ok.blt hb
  obtain ⟨n1, n2, n3⟩ := plainN_ne hp
  obtain ⟨a, rfl, ha, hs⟩ := h.one
  obtain ⟨pt, st, mt⟩ := tyName_sound ok ht
  refine pe_imp (pe_callB call_isi hg hm (by decide +kernel) (pa_cons ha (pa_cons pt pa_nil (star_of st)) (star_of hs)) n3 n1 (star_of hs) (stars_of fun e he => ?_)) fun σ H Q q => ?_
  · rcases List.mem_cons.1 he with rfl | he
    · exact st
    · cases he
  · refine sem_mono (op1_imp (o := .isi [ty] true) (f := fun d Q => Q (.val (.bl (isiD d [ty])))) (fun _ _ _ z => z) q) fun v H' z => ?_
    obtain ⟨σ', fr, F, d, R, fo, hx, hr, fin⟩ := z
    have ns : ∀ xs, d ≠ .set xs := fun xs e => by
      subst e
      rcases hx with hx | ⟨_, _, hx⟩
      · cases hx
      · exact hx.elim
    refine ⟨v, .ty ty, .type (tyOf d), .type ty, isi1 d ty, rfl, .ty ty, tyX_of hx ns, kit_ty (kitB_ok d ns ty mt), fin.scal fo ?_ (.bl _)⟩
    have e : isiD d [ty] = isi1 d ty := by simp [isiD, isi1]
    rw [← e]
    exact hr
theorem paired_ty : ∀ ts : List String, Paired ClsV (ts.map V.ty) (ts.map Value.type)
  | [] => .nil
  | t :: ts => .cons (.ty t) (paired_ty ts)
theorem isiT_sound (ok : CtxOk C X c) {tys : List String} {es : CXs} {l : Expr} {ts : List Expr} {n : Nat} {p pos tp : Pos} (hb : bltName c "isinstance" = true) (h : SEL C X es [l]) (ht : tyNames c tys ts = true) (hl : ts.length ≤ 10) :
    PE X (.Call (.Name "isinstance" p) [l, .Tuple ts n tp] [] pos) (semE X (wE C (.op (.isi tys false) es))) := by
  obtain ⟨hm, hg, hp⟩ := ok.blt hb
  obtain ⟨n1, n2, n3⟩ := plainN_ne hp
  obtain ⟨a, rfl, ha, hs⟩ := h.one
  obtain ⟨pt, mt⟩ := tyNames_sound ok ht
  have hlen : tys.length ≤ sizeLine := by
    have : ∀ {ts : List String} {es : List Expr}, tyNames c ts es = true → ts.length = es.length := by
      intro ts
      induction ts with
      | nil => intro es h; cases es with
        | nil => rfl
        | cons _ _ => cases h
      | cons t ts ih => intro es h; cases es with
        | nil => cases h
        | cons e es => simp [ih (and_of h).2]
    rw [this ht]
    have := sizeLine_eq
    omega
  refine pe_imp (pe_callB call_isiT hg hm (by decide +kernel) (pa_cons ha (pa_cons (pe_tup pt) pa_nil rfl) (star_of hs)) n3 n1 (star_of hs) (stars_of fun e he => ?_)) fun σ H Q q => ?_
  · rcases List.mem_cons.1 he with rfl | he
    · rfl
    · cases he
  · refine sem_mono (op1_imp (o := .isi tys false) (f := fun d Q => Q (.val (.bl (isiD d tys)))) (fun _ _ _ z => z) q) fun v H' z => ?_
    obtain ⟨σ', fr, F, d, R, fo, hx, hr, fin⟩ := z
    have ns : ∀ xs, d ≠ .set xs := fun xs e => by
      subst e
      rcases hx with hx | ⟨_, _, hx⟩
      · cases hx
      · exact hx.elim
    show tTys tys σ H' _
    refine tTys_eval ⟨by rw [List.length_map]; exact hlen, fun T hT => ?_⟩
    have s : Stp X.K σ' fr F H' fr F (upd H' T (.tup (tys.map V.ty))) := Stp.laid fo hT
    have hx' : Now X.K (upd H' T (.tup (tys.map V.ty))) F v d := by
      rcases hx with hx | ⟨a, e, hx⟩
      · exact .inl (hx.mono s.le (s.fkeep fo))
      · exact .inr ⟨a, e, hx.mono s.le (s.fkeep fo) (upd_ne fun z => hx.some (z ▸ hT))⟩
    exact ⟨v, T, tys.map V.ty, .type (tyOf d), tys.map Value.type, isiD d tys, rfl, upd_same, paired_ty tys, tyX_of hx' ns, kitAny_ok d ns tys mt, fin _ _ _ _ hr s (.bl _) trivial⟩
/-! ### subscripts, slices -/
theorem ix_sound (ok : CtxOk C X c) {es : CXs} {l r : Expr} {pos : Pos} (h : SEL C X es [l, r]) (hs : noSlice r = true) : PE X (.Subscript l r pos) (semE X (wE C (.op .ix es))) := by
  obtain ⟨a, d, rfl, ha, hd, _, _⟩ := h.two
  exact pe_imp (pe_ix iR_ix ha hd (plainIx_of hs)) (op2_imp fun _ _ _ _ z => z)
theorem slAll_sound (ok : CtxOk C X c) {es : CXs} {l : Expr} {pos p2 : Pos} (h : SEL C X es [l]) : PE X (.Subscript l (.Slice none none none p2) pos) (semE X (wE C (.op .slAll es))) := by
  obtain ⟨a, rfl, ha, _⟩ := h.one
  exact pe_imp (pe_slice sR_sl ha po_none po_none) fun σ H Q q => op1_imp (o := .slAll) (f := fun x Q => sliceW x none none Q) (fun _ _ _ z => z) q
theorem slLo_imp {f : D → D → RK → Prop} {C : WC} {o : Op} {a b : CX} {g : D → Int → RK → Prop} (ho : ∀ ra rb fr R, opW o [ra, rb] fr R → match derefs fr [ra, rb] with | some ds => two f ds (fun r => R r fr) | none => False)
    (hf : ∀ x y Q, f x y Q → ∃ i, y = .int i ∧ g x i Q) {σ : Sg} {H : Hp} {Q : VK} (h : semE X (wE C (.op o (.cons a (.cons b .nil)))) σ H Q) :
    semE X (wE C a) σ H fun x H1 => semE X (wE C b) σ H1 fun y H2 => ∃ i, y = .int i ∧ ∃ σ fr F d R, FrOk X.K H2 F σ fr ∧ Now X.K H2 F x d ∧ g d i R ∧ Fin X.K σ fr F H2 R Q := by
  refine sem_mono (op2_imp ho σ H Q h) fun x H1 z => sem_mono z fun y H2 z => ?_
  obtain ⟨σ', fr, F, d, e, R, fo, hx, hy, hr, fin⟩ := z
  obtain ⟨i, ei, hg⟩ := hf _ _ _ hr
  subst ei
  exact ⟨i, hy.int, σ', fr, F, d, R, fo, hx, hg, fin⟩
theorem slLo_sound (ok : CtxOk C X c) {es : CXs} {l r : Expr} {pos p2 : Pos} (h : SEL C X es [l, r]) : PE X (.Subscript l (.Slice (some r) none none p2) pos) (semE X (wE C (.op .slLo es))) := by
  obtain ⟨a, d, rfl, ha, hd, _, _⟩ := h.two
  refine pe_imp (pe_slice sR_sl ha (po_some hd) po_none) fun σ H Q q => slLo_imp (o := .slLo) (f := slLoW) (g := fun x i Q => sliceW x (some i) none Q) (fun _ _ _ _ z => z) (fun x y Q z => ?_) q
  cases y <;> first | exact (show False from z).elim | exact ⟨_, rfl, z⟩
theorem slHi_sound (ok : CtxOk C X c) {es : CXs} {l r : Expr} {pos p2 : Pos} (h : SEL C X es [l, r]) : PE X (.Subscript l (.Slice none (some r) none p2) pos) (semE X (wE C (.op .slHi es))) := by
  obtain ⟨a, d, rfl, ha, hd, _, _⟩ := h.two
  refine pe_imp (pe_slice sR_sl ha po_none (po_some hd)) fun σ H Q q => slLo_imp (o := .slHi) (f := slHiW) (g := fun x i Q => sliceW x none (some i) Q) (fun _ _ _ _ z => z) (fun x y Q z => ?_) q
  cases y <;> first | exact (show False from z).elim | exact ⟨_, rfl, z⟩
theorem sl2_sound {a b d : CX} {l r t : Expr} {pos p2 : Pos} (ha : PE X l (semE X (wE C a))) (hb : PE X r (semE X (wE C b))) (hd : PE X t (semE X (wE C d))) : PE X (.Subscript l (.Slice (some r) (some t) none p2) pos) (semE X (wE C (.sl2 a b d))) := by
  refine pe_imp (pe_slice sR_sl ha (po_some hb) (po_some hd)) fun σ H Q q => ?_
  obtain ⟨fr, F, R, h0, q, k⟩ := q
  refine sem2 h0 q fun ra rb fr2 x y H2 F2 hR s ox oy => ?_
  cases e1 : deref fr2 rb with
  | none => rw [e1] at hR; exact hR.elim
  | some u =>
    rw [e1] at hR
    cases u <;> first | exact hR.elim | skip
    rename_i i
    refine ⟨i, (oy.now s.ok e1).int, fr2, F2, _, s.ok, hR, fun rh fr3 z H3 F3 hR2 s3 o3 n3 => ?_⟩
    cases e2 : deref fr3 rh with
    | none => rw [e2] at hR2; exact hR2.elim
    | some w =>
      cases e3 : deref fr3 ra with
      | none => rw [e2, e3] at hR2; cases w <;> exact hR2.elim
      | some x' =>
        rw [e2, e3] at hR2
        cases w <;> first | exact hR2.elim | skip
        rename_i j
        exact ⟨j, (o3.now s3.ok e2).int, σ, fr3, F3, x', _, s3.ok, (ox.step s.ok s3).now s3.ok e3, hR2, fun r' v H' F' hr s' o' n' => k r' fr3 v H' F' hr ((s.trans h0 s3).trans h0 s') o' (n'.back (s.trans h0 s3))⟩
/-! ### methods -/
theorem bor_of {fr : Fr} {F : Addr → Prop} {H : Hp} {σ : Sg} {i : Nat} {b : Bool} {ds : List D} {v : V} (ok : FrOk X.K H F σ fr) (e : fr[i]? = some (.own b (.lst ds))) (ev : σ[i]? = some (some v)) :
    ∃ a xs, v = .ref a ∧ H a = some (.lst xs) ∧ RepL X.K H F xs ds := by
  obtain ⟨a, e1, _, xs, h, r⟩ := ok.own i b _ e
  rw [ev] at e1; cases e1
  exact ⟨a, xs, rfl, h, r⟩
theorem mtTy_list {o : Op} {fr : Fr} {F : Addr → Prop} {H : Hp} {σ : Sg} {r : Rf} {v : V} (ok : FrOk X.K H F σ fr) (x : RfOk X.K σ fr H F v r) (h : mtTy o (deref fr r)) (hn : o ≠ .indexT := by decide) : tyV X.K (if o = .join then "str" else "list") v H := by
  cases e : deref fr r with
  | none => rw [e] at h; exact h.elim
  | some d =>
    rw [e] at h
    cases d <;> first | exact h.elim | skip
    · have h : o = .join := h
      rw [(x.now ok e).str.1, if_pos h]
      rfl
    · exact absurd (show o = .indexT from h) hn
    · have h : o ≠ .join ∧ o ≠ .indexT := h
      obtain ⟨a, xs, rfl, e2, _⟩ := (x.now ok e).lst
      rw [if_neg h.1]
      exact .inl ⟨rfl, xs, .of e2⟩
theorem mtTy_tup {fr : Fr} {F : Addr → Prop} {H : Hp} {σ : Sg} {r : Rf} {v : V} (ok : FrOk X.K H F σ fr) (x : RfOk X.K σ fr H F v r) (h : mtTy .indexT (deref fr r)) : tyU X.K "tuple" v H := by
  cases e : deref fr r with
  | none => rw [e] at h; exact h.elim
  | some d =>
    rw [e] at h
    cases d <;> first | exact h.elim | skip
    · cases (show Op.indexT = .join from h)
    · obtain ⟨a, xs, rfl, e2, _⟩ := (x.now ok e).fzt
      rcases e2 with ⟨_, o, e2, e3⟩ | ⟨o, us, n, e2, e3, e4, _⟩
      · exact .inr ⟨rfl, a, o, xs, rfl, e2, e3⟩
      · exact .inl (.inr (.inl ⟨rfl, o, e3, e4, e2⟩))
    · exact absurd rfl (show Op.indexT ≠ .join ∧ Op.indexT ≠ .indexT from h).2
theorem pop_sound {a : CX} {l : Expr} {apos pos : Pos} (ha : PE X l (semE X (wE C a))) (hb : baseOk l = true) (hp : (apos.endLine == pos.line) = true) : PE X (.Call (.Attribute l "pop" apos) [] [] pos) (semE X (wE C (.mt .pop a .nil))) := by
  refine pe_imp (pe_bm0 PySem.F.plainAttrs_list PySem.F.slot_list_pop PySem.F.type_list_pop mt_pop ha (base_of hb) hp) fun σ H Q q => ?_
  obtain ⟨fr, F, R, h0, q, k⟩ := q
  refine sem1 h0 q fun ra fr2 x H2 F2 hR s ox nx => ⟨mtTy_list s.ok ox hR.1, ?_⟩
  have hR := hR.2
  cases ra with
  | bor i =>
    cases e : fr2[i]? with
    | none => simp only [wEs, opW, e] at hR
    | some sl =>
      cases sl with
      | own b d =>
        cases d with
        | lst ds =>
          cases e2 : ds.getLast? with
          | none => simp only [wEs, opW, e, e2] at hR
          | some y =>
            simp only [wEs, opW, e, e2] at hR
            obtain ⟨p, xs, rfl, h1, r1⟩ := bor_of s.ok e ox.1
            rw [List.getLast?_eq_getElem?, ← r1.length] at e2
            obtain ⟨w, e3, rw'⟩ := r1.get' e2
            refine ⟨p, xs, w, rfl, rfl, h1, e3, mut_ok s.ok (fun r fr' v H' F' hr s' o' n' => k r fr' v H' F' hr (s.trans h0 s') o' (n'.back s)) e ox.1 hR ?_ rw'⟩
            rw [List.dropLast_eq_take, List.dropLast_eq_take, r1.length]
            exact r1.take _
        | _ => simp only [wEs, opW, e] at hR
      | _ => simp only [wEs, opW, e] at hR
  | val d => simp only [wEs, opW, derefs, deref, readW] at hR
  | tmp d => simp only [wEs, opW, derefs, deref, readW] at hR
theorem reverse_sound {a : CX} {l : Expr} {apos pos : Pos} (ha : PE X l (semE X (wE C a))) (hb : baseOk l = true) (hp : (apos.endLine == pos.line) = true) : PE X (.Call (.Attribute l "reverse" apos) [] [] pos) (semE X (wE C (.mt .reverse a .nil))) := by
  refine pe_imp (pe_bm0 PySem.F.plainAttrs_list PySem.F.slot_list_reverse PySem.F.type_list_reverse mt_reverse ha (base_of hb) hp) fun σ H Q q => ?_
  obtain ⟨fr, F, R, h0, q, k⟩ := q
  refine sem1 h0 q fun ra fr2 x H2 F2 hR s ox nx => ⟨mtTy_list s.ok ox hR.1, ?_⟩
  have hR := hR.2
  cases ra with
  | bor i =>
    cases e : fr2[i]? with
    | none => simp only [wEs, opW, e] at hR
    | some sl =>
      cases sl with
      | own b d =>
        cases d with
        | lst ds =>
          simp only [wEs, opW, e] at hR
          obtain ⟨p, xs, rfl, h1, r1⟩ := bor_of s.ok e ox.1
          exact ⟨p, xs, rfl, rfl, h1, mut_ok s.ok (fun r fr' v H' F' hr s' o' n' => k r fr' v H' F' hr (s.trans h0 s') o' (n'.back s)) e ox.1 hR r1.reverse .non⟩
        | _ => simp only [wEs, opW, e] at hR
      | _ => simp only [wEs, opW, e] at hR
  | val d => simp only [wEs, opW, derefs, deref, readW] at hR
  | tmp d => simp only [wEs, opW, derefs, deref, readW] at hR
end
end QL
set_option maxHeartbeats 1200000
/-! QI: methods with arguments, calls of defs -/
namespace QL
open PySem L2
section
variable {C : WC} {X : Cx} {c : Ctx}
theorem few1 {e : Expr} {env : Env} {pos : Pos} (h : noStar e = true) : ((backTo pos (starEach [e] env)).all (fun x => !x.1) && (backToKw pos (keywordEach [] env)).all (fun x => x.1.isSome) && decide (([e] : List Expr).length + ([] : List Keyword).length + (if ([] : List Keyword).isEmpty then 0 else 1) < 30)) = true := by
  rw [star_of h]
  rfl
theorem few2 {e f : Expr} {env : Env} {pos : Pos} (h : noStar e = true) (h2 : noStar f = true) : ((backTo pos (starEach [e, f] env)).all (fun x => !x.1) && (backToKw pos (keywordEach [] env)).all (fun x => x.1.isSome) && decide (([e, f] : List Expr).length + ([] : List Keyword).length + (if ([] : List Keyword).isEmpty then 0 else 1) < 30)) = true := by
  rw [star_of h, star_of h2]
  rfl
theorem append_sound {a : CX} {es : CXs} {l x : Expr} {apos pos : Pos} (ha : PE X l (semE X (wE C a))) (hb : baseOk l = true) (hp : (apos.endLine == pos.line) = true) (h : SEL C X es [x]) : PE X (.Call (.Attribute l "append" apos) [x] [] pos) (semE X (wE C (.mt .append a es))) := by
  obtain ⟨b, rfl, hx, hs⟩ := h.one
  refine pe_imp (pe_bm PySem.F.plainAttrs_list PySem.F.slot_list_append PySem.F.type_list_append mt_append ha (pa_cons hx pa_nil (star_of hs)) (base_of hb) (few1 hs) hp (star_of hs) (stars_of fun e he => by cases he)) fun σ H Q q => ?_
  obtain ⟨fr, F, R, h0, q, k⟩ := q
  refine sem1 h0 q fun ra fr2 v H2 F2 hR s ox nx => ⟨mtTy_list s.ok ox hR.1, ?_⟩
  have hR := hR.2
  refine ⟨fr2, F2, _, s.ok, hR, fun rb fr3 y H3 F3 hR s2 oy ny => ?_⟩
  have oa := ox.step s.ok s2
  have s3 := s.trans h0 s2
  cases ra with
  | bor i =>
    cases rb with
    | val d =>
      cases e : fr3[i]? with
      | none => simp only [wEs, opW, e] at hR
      | some sl =>
        cases sl with
        | own b d' =>
          cases d' with
          | lst ds =>
            simp only [wEs, opW, e] at hR
            obtain ⟨p, xs, rfl, h1, r1⟩ := bor_of s3.ok e oa.1
            exact ⟨p, xs, y, rfl, rfl, h1, by rw [r1.length]; exact hR.1, mut_ok s3.ok (fun r fr' v H' F' hr s' o' n' => k r fr' v H' F' hr (s3.trans h0 s') o' (n'.back s3)) e oa.1 hR.2 (r1.append (.cons oy .nil)) .non⟩
          | _ => simp only [wEs, opW, e] at hR
        | _ => simp only [wEs, opW, e] at hR
    | tmp d =>
      simp only [wEs, opW] at hR
      split at hR <;> simp_all [readW]
    | bor j =>
      simp only [wEs, opW] at hR
      split at hR <;> simp_all [readW]
  | val d =>
    simp only [wEs, opW] at hR
    split at hR <;> simp_all [readW]
  | tmp d =>
    simp only [wEs, opW] at hR
    split at hR <;> simp_all [readW]
theorem join_sound {a : CX} {es : CXs} {l x : Expr} {apos pos : Pos} (ha : PE X l (semE X (wE C a))) (hb : baseOk l = true) (hp : (apos.endLine == pos.line) = true) (h : SEL C X es [x]) : PE X (.Call (.Attribute l "join" apos) [x] [] pos) (semE X (wE C (.mt .join a es))) := by
  obtain ⟨b, rfl, hx, hs⟩ := h.one
  refine pe_imp (pe_bm PySem.F.plainAttrs_str PySem.F.slot_str_join PySem.F.type_str_join mR_join ha (pa_cons hx pa_nil (star_of hs)) (base_of hb) (few1 hs) hp (star_of hs) (stars_of fun e he => by cases he)) fun σ H Q q => ?_
  obtain ⟨fr, F, R, h0, q, k⟩ := q
  refine sem1 h0 q fun ra fr2 v H2 F2 hR s ox nx => ⟨mtTy_list s.ok ox hR.1, ?_⟩
  have hR := hR.2
  refine ⟨fr2, F2, _, s.ok, hR, fun rb fr3 y H3 F3 hR s2 oy ny => ?_⟩
  have oa := ox.step s.ok s2
  have s3 := s.trans h0 s2
  obtain ⟨d, e, e1, e2, hf⟩ := derefs2 (o := .join) (f := two joinW) hR
  exact ⟨y, rfl, σ, fr3, F3, d, e, _, s3.ok, oa.now s3.ok e1, oy.now s3.ok e2, hf, fun r v H' F' hr s' o' n' => k r fr3 v H' F' hr (s3.trans h0 s') o' (n'.back s3)⟩
theorem idx_int : ∀ {ns : List Int} {y : Int}, y ∈ ns → ns[ns.idxOf y]? = some y ∧ ∀ m, m < ns.idxOf y → ns[m]? ≠ some y
  | [], y, h => by cases h
  | x :: r, y, h => by
    by_cases e : x = y
    · subst e
      simp
    · have hr : y ∈ r := (List.mem_cons.1 h).elim (fun z => absurd z.symm e) id
      obtain ⟨h1, h2⟩ := idx_int hr
      have ei : (x :: r).idxOf y = r.idxOf y + 1 := by
        rw [List.idxOf_cons]
        have : (x == y) = false := by simp [e]
        rw [this]
        rfl
      rw [ei]
      refine ⟨by simpa using h1, fun m hm => ?_⟩
      cases m with
      | zero => simp [e]
      | succ m => simpa using h2 m (by omega)
theorem idx_str : ∀ {ns : List Str} {y : Str}, y ∈ ns → ns[ns.idxOf y]? = some y ∧ ∀ m, m < ns.idxOf y → ns[m]? ≠ some y
  | [], y, h => by cases h
  | x :: r, y, h => by
    by_cases e : x = y
    · subst e
      simp
    · have hr : y ∈ r := (List.mem_cons.1 h).elim (fun z => absurd z.symm e) id
      obtain ⟨h1, h2⟩ := idx_str hr
      have ei : (x :: r).idxOf y = r.idxOf y + 1 := by
        rw [List.idxOf_cons]
        have : (x == y) = false := by simp [e]
        rw [this]
        rfl
      rw [ei]
      refine ⟨by simpa using h1, fun m hm => ?_⟩
      cases m with
      | zero => simp [e]
      | succ m => simpa using h2 m (by omega)
theorem ints_rep {K : PySem.W.Frag} {H : Hp} {F : Addr → Prop} : ∀ {xs : List V} {ds : List D} {ns : List Int}, RepL K H F xs ds → intsD ds = some ns → xs = ns.map V.int
  | _, _, ns, .nil, e => by cases e; rfl
  | _, _, ns, .cons (.int i) r, e => by
    have e : (intsD _).map (i :: ·) = some ns := e
    obtain ⟨ms, q, rfl⟩ := Option.map_eq_some_iff.mp e
    rw [ints_rep r q]
    rfl
  | _, _, _, .cons .non _, e => by cases e
  | _, _, _, .cons (.bl _) _, e => by cases e
  | _, _, _, .cons (.str ..) _, e => by cases e
  | _, _, _, .cons (.tup ..) _, e => by cases e
  | _, _, _, .cons (.lst ..) _, e => by cases e
  | _, _, _, .cons (.frl ..) _, e => by cases e
  | _, _, _, .cons (.dct ..) _, e => by cases e
theorem strs_rep {K : PySem.W.Frag} {H : Hp} {F : Addr → Prop} : ∀ {xs : List V} {ds : List D} {ns : List Str}, RepL K H F xs ds → strsD ds = some ns → xs = ns.map V.str
  | _, _, ns, .nil, e => by cases e; rfl
  | _, _, ns, .cons (.str i _ _) r, e => by
    have e : (strsD _).map (i :: ·) = some ns := e
    obtain ⟨ms, q, rfl⟩ := Option.map_eq_some_iff.mp e
    rw [strs_rep r q]
    rfl
  | _, _, _, .cons .non _, e => by cases e
  | _, _, _, .cons (.bl _) _, e => by cases e
  | _, _, _, .cons (.int ..) _, e => by cases e
  | _, _, _, .cons (.tup ..) _, e => by cases e
  | _, _, _, .cons (.lst ..) _, e => by cases e
  | _, _, _, .cons (.frl ..) _, e => by cases e
  | _, _, _, .cons (.dct ..) _, e => by cases e
theorem indexL_sound {a : CX} {es : CXs} {l x : Expr} {apos pos : Pos} (ha : PE X l (semE X (wE C a))) (hb : baseOk l = true) (hp : (apos.endLine == pos.line) = true) (h : SEL C X es [x]) : PE X (.Call (.Attribute l "index" apos) [x] [] pos) (semE X (wE C (.mt .indexL a es))) := by
  obtain ⟨b, rfl, hx, hs⟩ := h.one
  refine pe_imp (pe_bm PySem.F.plainAttrs_list PySem.F.slot_list_index PySem.F.type_list_index mt_index ha (pa_cons hx pa_nil (star_of hs)) (base_of hb) (few1 hs) hp (star_of hs) (stars_of fun e he => by cases he)) fun σ H Q q => ?_
  obtain ⟨fr, F, R, h0, q, k⟩ := q
  refine sem1 h0 q fun ra fr2 v H2 F2 hR s ox nx => ⟨mtTy_list s.ok ox hR.1, ?_⟩
  have hR := hR.2
  refine ⟨fr2, F2, _, s.ok, hR, fun rb fr3 y H3 F3 hR s2 oy ny => ?_⟩
  have oa := ox.step s.ok s2
  have s3 := s.trans h0 s2
  obtain ⟨d, e, e1, e2, hf⟩ := derefs2 (o := .indexL) (f := two indexLW) hR
  have hf : indexLW d e _ := hf
  cases d <;> first | exact hf.elim | skip
  cases e <;> first | exact hf.elim | skip
  obtain ⟨ns, en, hm, hq⟩ := hf
  obtain ⟨p, xs, rfl, e3, r⟩ := (oa.now s3.ok e1).lst
  have ey := (oy.now s3.ok e2).int
  subst ey
  have ex := ints_rep r en
  subst ex
  obtain ⟨i1, i2⟩ := idx_int hm
  refine ⟨p, _, _, _, _, rfl, rfl, .of e3, rfl, ?_, by rw [List.getElem?_map, i1]; rfl, ?_, fun m z' hm' hz => ?_, k (.val (.int _)) fr3 _ H3 F3 hq s3 (.int _) trivial⟩
  · rw [List.all_map, List.all_eq_true]
    intro z _
    rfl
  · show (_ == _) = true
    rw [beq_self_eq_true]
  · rw [List.getElem?_map] at hz
    obtain ⟨z, hz1, rfl⟩ := Option.map_eq_some_iff.mp hz
    show (z == _) = false
    rw [beq_eq_false_iff_ne]
    intro e
    exact i2 m hm' (e ▸ hz1)
theorem indexT_sound {a : CX} {es : CXs} {l x : Expr} {apos pos : Pos} (ha : PE X l (semE X (wE C a))) (hb : baseOk l = true) (hp : (apos.endLine == pos.line) = true) (h : SEL C X es [x]) : PE X (.Call (.Attribute l "index" apos) [x] [] pos) (semE X (wE C (.mt .indexT a es))) := by
  obtain ⟨b, rfl, hx, hs⟩ := h.one
  refine pe_imp (pe_bmU PySem.F.plainAttrs_tuple PySem.F.slot_tuple_index PySem.F.type_tuple_index mt_tup_index ha (pa_cons hx pa_nil (star_of hs)) (base_of hb) (few1 hs) hp (star_of hs) (stars_of fun e he => by cases he)) fun σ H Q q => ?_
  obtain ⟨fr, F, R, h0, q, k⟩ := q
  refine sem1 h0 q fun ra fr2 v H2 F2 hR s ox nx => ⟨mtTy_tup s.ok ox hR.1, ?_⟩
  have hR := hR.2
  refine ⟨fr2, F2, _, s.ok, hR, fun rb fr3 y H3 F3 hR s2 oy ny => ?_⟩
  have oa := ox.step s.ok s2
  have s3 := s.trans h0 s2
  obtain ⟨d, e, e1, e2, hf⟩ := derefs2 (o := .indexT) (f := two indexTW) hR
  have hf : indexTW d e _ := hf
  cases d <;> first | exact hf.elim | skip
  cases e <;> first | exact hf.elim | skip
  obtain ⟨ns, en, hm, hq⟩ := hf
  obtain ⟨p, xs, rfl, e3, r⟩ := (oa.now s3.ok e1).tup
  have ey := (oy.now s3.ok e2).str.1
  subst ey
  have ex := strs_rep r en
  subst ex
  obtain ⟨i1, i2⟩ := idx_str hm
  exact ⟨p, _, _, _, rfl, rfl, e3, i1, i2, k (.val (.int _)) fr3 _ H3 F3 hq s3 (.int _) trivial⟩
theorem insert_sound {a : CX} {es : CXs} {l x t : Expr} {apos pos : Pos} (ha : PE X l (semE X (wE C a))) (hb : baseOk l = true) (hp : (apos.endLine == pos.line) = true) (h : SEL C X es [x, t]) : PE X (.Call (.Attribute l "insert" apos) [x, t] [] pos) (semE X (wE C (.mt .insert a es))) := by
  obtain ⟨b, d, rfl, hx, ht, hs, hs2⟩ := h.two
  refine pe_imp (pe_bm PySem.F.plainAttrs_list PySem.F.slot_list_insert PySem.F.type_list_insert mt_insert ha (pa_cons hx (pa_cons ht pa_nil (star_of hs2)) (star_of hs)) (base_of hb) (few2 hs hs2) hp (star_of hs) (stars_of fun e he => by
    rcases List.mem_cons.1 he with rfl | he
    · exact hs2
    · cases he)) fun σ H Q q => ?_
  obtain ⟨fr, F, R, h0, q, k⟩ := q
  refine sem1 h0 q fun ra fr2 v H2 F2 hR s ox nx => ⟨mtTy_list s.ok ox hR.1, ?_⟩
  have hR := hR.2
  refine sem2 s.ok hR fun rb rd fr3 y z H3 F3 hR s2 oy oz => ?_
  have oa := ox.step s.ok s2
  have s3 := s.trans h0 s2
  cases ra with
  | bor i =>
    cases rb with
    | val dj =>
      cases dj with
      | int j =>
        cases rd with
        | val d =>
          cases e : fr3[i]? with
          | none => simp only [wEs, opW, e] at hR
          | some sl =>
            cases sl with
            | own b d' =>
              cases d' with
              | lst ds =>
                simp only [wEs, opW, e] at hR
                obtain ⟨j0, j1, j2, hR⟩ := hR
                obtain ⟨p, xs, rfl, h1, r1⟩ := bor_of s3.ok e oa.1
                have ey : y = .int j := by cases oy; rfl
                subst ey
                have hsl := sizeLine_eq
                refine ⟨p, xs, j, z, rfl, rfl, h1, by rw [r1.length]; exact j2, j0, by omega, ?_⟩
                refine mut_ok s3.ok (fun r fr' v H' F' hr s' o' n' => k r fr' v H' F' hr (s3.trans h0 s') o' (n'.back s3)) e oa.1 hR ?_ .non
                rw [List.append_assoc]
                exact (r1.take _).append (.cons oz (r1.drop _))
              | _ => simp only [wEs, opW, e] at hR
            | _ => simp only [wEs, opW, e] at hR
        | tmp d =>
          simp only [wEs, opW] at hR
          split at hR <;> simp_all [readW]
        | bor d =>
          simp only [wEs, opW] at hR
          split at hR <;> simp_all [readW]
      | _ =>
        simp only [wEs, opW] at hR
        split at hR <;> simp_all [readW]
    | tmp d =>
      simp only [wEs, opW] at hR
      split at hR <;> simp_all [readW]
    | bor j =>
      simp only [wEs, opW] at hR
      split at hR <;> simp_all [readW]
  | val d =>
    simp only [wEs, opW] at hR
    split at hR <;> simp_all [readW]
  | tmp d =>
    simp only [wEs, opW] at hR
    split at hR <;> simp_all [readW]
/-! ### calls of defs -/
theorem argSls_get {fr : Fr} : ∀ {rs : List Rf} {ss : List Sl}, argSls fr rs = some ss → ss.length = rs.length ∧ ∀ (i : Nat) (s : Sl), ss[i]? = some s → ∃ r, rs[i]? = some r ∧ argSl fr r = some s
  | [], _, h => by cases h; exact ⟨rfl, fun i s e => by simp at e⟩
  | r :: rs, ss, h => by
    unfold argSls at h
    cases e1 : argSl fr r with
    | none => rw [e1] at h; cases h
    | some s =>
      cases e2 : argSls fr rs with
      | none => rw [e1, e2] at h; cases h
      | some ss' =>
        rw [e1, e2] at h
        cases h
        obtain ⟨h1, h2⟩ := argSls_get e2
        refine ⟨by simp [h1], fun i s' e => ?_⟩
        cases i with
        | zero => simp at e; subst e; exact ⟨r, rfl, e1⟩
        | succ i =>
          obtain ⟨r', e3, e4⟩ := h2 i s' (by simpa using e)
          exact ⟨r', by simpa using e3, e4⟩
theorem borrows_inj : ∀ {rs : List Rf}, (borrows rs).Nodup → ∀ {i j k : Nat}, rs[i]? = some (.bor k) → rs[j]? = some (.bor k) → i = j
  | [], _, i, j, k, e, _ => by simp at e
  | .bor m :: rs, h, i, j, k, e1, e2 => by
    have h' : m ∉ borrows rs ∧ (borrows rs).Nodup := List.nodup_cons.mp h
    have mem : ∀ {i : Nat}, rs[i]? = some (Rf.bor k) → k ∈ borrows rs := by
      intro i
      clear e1 e2 h h'
      induction rs generalizing i with
      | nil => intro e; simp at e
      | cons r rs ih =>
        intro e
        cases i with
        | zero => simp at e; subst e; simp [borrows]
        | succ i =>
          have := ih (i := i) (by simpa using e)
          cases r <;> simp [borrows, this]
    cases i with
    | zero =>
      cases j with
      | zero => rfl
      | succ j =>
        simp at e1 e2
        subst e1
        exact absurd (mem e2) h'.1
    | succ i =>
      cases j with
      | zero =>
        simp at e1 e2
        subst e2
        exact absurd (mem e1) h'.1
      | succ j =>
        exact congrArg (· + 1) (borrows_inj (i := i) (j := j) (k := k) h'.2 (by simpa using e1) (by simpa using e2))
  | .val m :: rs, h, i, j, k, e1, e2 => by
    cases i with
    | zero => simp at e1
    | succ i =>
      cases j with
      | zero => simp at e2
      | succ j => exact congrArg (· + 1) (borrows_inj (rs := rs) (i := i) (j := j) (k := k) h (by simpa using e1) (by simpa using e2))
  | .tmp m :: rs, h, i, j, k, e1, e2 => by
    cases i with
    | zero => simp at e1
    | succ i =>
      cases j with
      | zero => simp at e2
      | succ j => exact congrArg (· + 1) (borrows_inj (rs := rs) (i := i) (j := j) (k := k) h (by simpa using e1) (by simpa using e2))
end
section
variable {K : PySem.W.Frag} {σ : Sg} {fr : Fr} {F : Addr → Prop} {H H0 : Hp}
theorem RfsOk.tmp_inj : ∀ {vs : List V} {rs : List Rf} {i j : Nat} {d e : D} {v : V}, RfsOk K σ fr H F H0 vs rs → rs[i]? = some (.tmp d) → rs[j]? = some (.tmp e) → vs[i]? = some v → vs[j]? = some v → i = j
  | _, _, 0, 0, _, _, _, _, _, _, _, _ => rfl
  | _, _, 0, j + 1, d, e, v, .cons a b c r, e1, e2, e3, e4 => by
    simp at e1 e2 e3 e4
    subst e1 e3
    exact absurd e4 (c d rfl j e e2)
  | _, _, i + 1, 0, d, e, v, .cons a b c r, e1, e2, e3, e4 => by
    simp at e1 e2 e3 e4
    subst e2 e4
    exact absurd e3 (c e rfl i d e1)
  | _, _, i + 1, j + 1, d, e, v, .cons a b c r, e1, e2, e3, e4 => by
    rw [RfsOk.tmp_inj (i := i) (j := j) r (by simpa using e1) (by simpa using e2) (by simpa using e3) (by simpa using e4)]
  | _, _, _, _, _, _, _, .nil, e1, _, _, _ => by simp at e1
/-- the callee's slots -/
theorem args_ok (ok : FrOk K H F σ fr) {vs : List V} {rs : List Rf} {ss : List Sl} (x : RfsOk K σ fr H F H0 vs rs) (e : argSls fr rs = some ss) (nd : (borrows rs).Nodup) : FrOk K H F (vs.map some) ss := by
  obtain ⟨hl, hg⟩ := argSls_get e
  have hvl := x.length
  have vat : ∀ {i : Nat} {r : Rf}, rs[i]? = some r → ∃ v, vs[i]? = some v := fun {i r} e => by
    have : i < vs.length := by rw [hvl]; exact (List.getElem?_eq_some_iff.mp e).1
    exact ⟨vs[i], List.getElem?_eq_getElem this⟩
  -- what an own slot is
  have own : ∀ {i : Nat} {b : Bool} {d : D}, ss[i]? = some (.own b d) → ∃ v, vs[i]? = some v ∧ ((b = false ∧ rs[i]? = some (.tmp d) ∧ ∃ a, v = .ref a ∧ ¬ F a ∧ ¬ Own fr σ a ∧ OwnRel K H F a d) ∨ (b = true ∧ ∃ k b', rs[i]? = some (.bor k) ∧ fr[k]? = some (.own b' d) ∧ σ[k]? = some (some v))) := fun {i b d} e => by
    obtain ⟨r, e1, e2⟩ := hg i _ e
    obtain ⟨v, e3⟩ := vat e1
    obtain ⟨o, n⟩ := x.get e3 e1
    refine ⟨v, e3, ?_⟩
    cases r with
    | val d' => simp [argSl] at e2
    | tmp d' =>
      simp [argSl] at e2
      obtain ⟨rfl, rfl⟩ := e2
      exact .inl ⟨rfl, e1, o⟩
    | bor k =>
      obtain ⟨o1, s, o2, _⟩ := o
      simp only [argSl, o2] at e2
      cases s with
      | none => simp at e2
      | val d' => simp at e2
      | own b' d' =>
        simp at e2
        obtain ⟨rfl, rfl⟩ := e2
        exact .inr ⟨rfl, k, b', e1, o2, o1⟩
  refine ⟨ok.fh, fun i d e => ?_, fun i b d e => ?_, fun i j a b c d d' e1 e2 s1 s2 => ?_, by rw [List.length_map, hl, hvl]⟩
  · obtain ⟨r, e1, e2⟩ := hg i _ e
    obtain ⟨v, e3⟩ := vat e1
    obtain ⟨o, n⟩ := x.get e3 e1
    refine ⟨v, by rw [List.getElem?_map, e3]; rfl, ?_⟩
    cases r with
    | val d' => simp [argSl] at e2; subst e2; exact o
    | tmp d' => simp [argSl] at e2
    | bor k =>
      obtain ⟨o1, s, o2, _⟩ := o
      simp only [argSl, o2] at e2
      cases s with
      | none => simp at e2
      | own b' d' => simp at e2
      | val d' =>
        simp at e2
        subst e2
        obtain ⟨v', e4, r4⟩ := ok.val k d' o2
        rw [o1] at e4; cases e4
        exact r4
  · obtain ⟨v, e3, h⟩ := own e
    rcases h with ⟨_, _, a, rfl, nf, _, r⟩ | ⟨_, k, b', _, o2, o1⟩
    · exact ⟨a, by rw [List.getElem?_map, e3]; rfl, nf, r⟩
    · obtain ⟨a, e4, nf, r⟩ := ok.own k b' d o2
      rw [o1] at e4; cases e4
      exact ⟨a, by rw [List.getElem?_map, e3]; rfl, nf, r⟩
  · obtain ⟨v1, f1, h1⟩ := own e1
    obtain ⟨v2, f2, h2⟩ := own e2
    rw [List.getElem?_map, f1] at s1
    rw [List.getElem?_map, f2] at s2
    cases s1
    cases s2
    rcases h1 with ⟨_, t1, a1, q1, _, no1, _⟩ | ⟨_, k1, b1, t1, o1, u1⟩
    · rcases h2 with ⟨_, t2, a2, q2, _, no2, _⟩ | ⟨_, k2, b2, t2, o2, u2⟩
      · exact x.tmp_inj t1 t2 f1 f2
      · cases q1
        exact absurd ⟨k2, b2, d', o2, u2⟩ no1
    · rcases h2 with ⟨_, t2, a2, q2, _, no2, _⟩ | ⟨_, k2, b2, t2, o2, u2⟩
      · cases q2
        exact absurd ⟨k1, b1, d, o1, u1⟩ no2
      · have : k1 = k2 := ok.inj k1 k2 a b1 b2 d d' o1 o2 u1 u2
        subst this
        exact borrows_inj nd t1 t2
end
end QL
set_option maxHeartbeats 1200000
/-! QJ: calls of defs, comprehensions, sources -/
namespace QL
open PySem L2
theorem giveBack_spec : ∀ {rs : List Rf} {outs : List Sl} {fr fr2 : Fr}, (borrows rs).Nodup → giveBack fr rs outs = some fr2 →
    fr2.length = fr.length ∧ (∀ j : Nat, (∀ (i : Nat) (d' : D), rs[i]? = some (.bor j) → outs[i]? ≠ some (.own true d')) → fr2[j]? = fr[j]?) ∧
    ∀ (i j : Nat) (d' : D), rs[i]? = some (.bor j) → outs[i]? = some (.own true d') → ∃ (b : Bool) (d : D), fr[j]? = some (.own b d) ∧ fr2[j]? = some (.own b d')
  | [], outs, fr, fr2, _, h => by
    simp only [giveBack, Option.some.injEq] at h
    subst h
    exact ⟨rfl, fun _ _ => rfl, fun i j d' e => by simp at e⟩
  | .bor k :: rs, .own true d :: outs, fr, fr2, nd, h => by
    obtain ⟨nk, nd'⟩ : k ∉ borrows rs ∧ (borrows rs).Nodup := List.nodup_cons.mp nd
    unfold giveBack at h
    cases e : fr[k]? with
    | none => (rw [e] at h; cases h)
    | some s =>
      rw [e] at h
      cases s with
      | none => cases h
      | val _ => cases h
      | own b d0 =>
        have hk : k < fr.length := (List.getElem?_eq_some_iff.mp e).1
        obtain ⟨h1, h2, h3⟩ := giveBack_spec nd' h
        have nomem : ∀ i : Nat, rs[i]? ≠ some (Rf.bor k) := fun i ei => nk (by
          clear h h1 h2 h3 nd nd' nk
          induction rs generalizing i with
          | nil => simp at ei
          | cons r rs ih =>
            cases i with
            | zero => simp at ei; subst ei; simp [borrows]
            | succ i =>
              have := ih i (by simpa using ei)
              cases r <;> simp [borrows, this])
        refine ⟨by rw [h1, List.length_set], fun j hj => ?_, fun i j d' e1 e2 => ?_⟩
        · have hjk : k ≠ j := fun z => by
            subst z
            exact hj 0 d rfl rfl
          rw [h2 j fun i d' e1 => hj (i + 1) d' (by simpa using e1), get_set_ne hjk]
        · cases i with
          | zero =>
            simp at e1 e2
            subst e1 e2
            refine ⟨b, d0, e, ?_⟩
            rw [h2 k fun i d' e1 => absurd e1 (nomem i), List.getElem?_set_self hk]
          | succ i =>
            have e1 : rs[i]? = some (.bor j) := by simpa using e1
            have hjk : k ≠ j := fun z => by
              subst z
              exact nomem i e1
            obtain ⟨b', d1, f1, f2⟩ := h3 i j d' e1 (by simpa using e2)
            rw [get_set_ne hjk] at f1
            exact ⟨b', d1, f1, f2⟩
  | .bor k :: rs, .own false d :: outs, fr, fr2, nd, h => by
    obtain ⟨nk, nd'⟩ : k ∉ borrows rs ∧ (borrows rs).Nodup := List.nodup_cons.mp nd
    simp only [giveBack] at h
    split at h
    · obtain ⟨h1, h2, h3⟩ := giveBack_spec nd' h
      refine ⟨h1, fun j hj => h2 j fun i d' e1 => hj (i + 1) d' (by simpa using e1), fun i j d' e1 e2 => ?_⟩
      cases i with
      | zero => simp at e2
      | succ i => exact h3 i j d' (by simpa using e1) (by simpa using e2)
    · cases h
  | .bor k :: rs, .val d :: outs, fr, fr2, nd, h => by
    obtain ⟨nk, nd'⟩ : k ∉ borrows rs ∧ (borrows rs).Nodup := List.nodup_cons.mp nd
    simp only [giveBack] at h
    split at h
    · obtain ⟨h1, h2, h3⟩ := giveBack_spec nd' h
      refine ⟨h1, fun j hj => h2 j fun i d' e1 => hj (i + 1) d' (by simpa using e1), fun i j d' e1 e2 => ?_⟩
      cases i with
      | zero => simp at e2
      | succ i => exact h3 i j d' (by simpa using e1) (by simpa using e2)
    · cases h
  | .bor k :: rs, .none :: outs, fr, fr2, nd, h => by
    obtain ⟨nk, nd'⟩ : k ∉ borrows rs ∧ (borrows rs).Nodup := List.nodup_cons.mp nd
    simp only [giveBack] at h
    split at h
    · obtain ⟨h1, h2, h3⟩ := giveBack_spec nd' h
      refine ⟨h1, fun j hj => h2 j fun i d' e1 => hj (i + 1) d' (by simpa using e1), fun i j d' e1 e2 => ?_⟩
      cases i with
      | zero => simp at e2
      | succ i => exact h3 i j d' (by simpa using e1) (by simpa using e2)
    · cases h
  | .val x :: rs, o :: outs, fr, fr2, nd, h => by
    have h : giveBack fr rs outs = some fr2 := h
    obtain ⟨h1, h2, h3⟩ := giveBack_spec (rs := rs) nd h
    refine ⟨h1, fun j hj => h2 j fun i d' e1 => hj (i + 1) d' (by simpa using e1), fun i j d' e1 e2 => ?_⟩
    cases i with
    | zero => simp at e1
    | succ i => exact h3 i j d' (by simpa using e1) (by simpa using e2)
  | .tmp x :: rs, o :: outs, fr, fr2, nd, h => by
    have h : giveBack fr rs outs = some fr2 := h
    obtain ⟨h1, h2, h3⟩ := giveBack_spec (rs := rs) nd h
    refine ⟨h1, fun j hj => h2 j fun i d' e1 => hj (i + 1) d' (by simpa using e1), fun i j d' e1 e2 => ?_⟩
    cases i with
    | zero => simp at e1
    | succ i => exact h3 i j d' (by simpa using e1) (by simpa using e2)
  | .bor k :: rs, [], fr, fr2, nd, h => by simp [giveBack] at h
  | .val k :: rs, [], fr, fr2, nd, h => by simp [giveBack] at h
  | .tmp k :: rs, [], fr, fr2, nd, h => by simp [giveBack] at h
section
variable {K : PySem.W.Frag} {σ : Sg} {fr fr1 fr2 : Fr} {F F1 F2 : Addr → Prop} {H H1 H2 : Hp}
theorem giveBack_ok (h0 : FrOk K H F σ fr) (s : Stp K σ fr F H fr1 F1 H1) {vs : List V} {rs : List Rf} {ss outs : List Sl} {v : V} {r : Rf} (x : RfsOk K σ fr1 H1 F1 H vs rs) (e : argSls fr1 rs = some ss) (nd : (borrows rs).Nodup)
    (p : CallPost K vs ss F1 H1 r outs v F2 H2) (g : giveBack fr1 rs outs = some fr2) : Stp K σ fr F H fr2 F2 H2 ∧ RfOk K σ fr2 H2 F2 v r ∧ RfNew H v r := by
  have ao := args_ok s.ok x e nd
  obtain ⟨gl, ga, gb⟩ := giveBack_spec nd g
  obtain ⟨hl, hg⟩ := argSls_get e
  have hF : ∀ a, F1 a → H2 a = H1 a := fun a f => p.keep a (s.ok.fh a f) fun o => ao.nf o f
  have vat : ∀ {i : Nat} {r : Rf}, rs[i]? = some r → ∃ v, vs[i]? = some v := fun {i r} e => by
    have : i < vs.length := by rw [x.length]; exact (List.getElem?_eq_some_iff.mp e).1
    exact ⟨vs[i], List.getElem?_eq_getElem this⟩
  -- the own slots of the callee
  have oF : ∀ {a : Addr}, OwnF ss (vs.map some) a → H a = none ∧ ¬ Own fr1 σ a := fun {a} o => by
    obtain ⟨i, d, e1, e2⟩ := o
    obtain ⟨r', e3, e4⟩ := hg i _ e1
    obtain ⟨v', e5⟩ := vat e3
    obtain ⟨q, n⟩ := x.get e5 e3
    rw [List.getElem?_map, e5] at e2
    cases e2
    cases r' with
    | val d' => simp [argSl] at e4
    | tmp d' =>
      obtain ⟨a', ea, _, no, _⟩ := q
      cases ea
      exact ⟨n a rfl, no⟩
    | bor k =>
      obtain ⟨_, s', o2, _⟩ := q
      simp only [argSl, o2] at e4
      cases s' <;> simp at e4
  have oT : ∀ {a : Addr} {i : Nat} {d : D}, ss[i]? = some (.own true d) → vs[i]? = some (.ref a) → ∃ (k : Nat) (b : Bool), rs[i]? = some (.bor k) ∧ fr1[k]? = some (.own b d) ∧ σ[k]? = some (some (.ref a)) := fun {a i d} e1 e2 => by
    obtain ⟨r', e3, e4⟩ := hg i _ e1
    obtain ⟨q, n⟩ := x.get e2 e3
    cases r' with
    | val d' => simp [argSl] at e4
    | tmp d' => simp [argSl] at e4
    | bor k =>
      obtain ⟨q1, s', o2, _⟩ := q
      simp only [argSl, o2] at e4
      cases s' with
      | none => simp at e4
      | val d' => simp at e4
      | own b d' =>
        simp at e4
        subst e4
        exact ⟨k, b, e3, o2, q1⟩
  have oAny : ∀ {a : Addr}, Own ss (vs.map some) a → OwnF ss (vs.map some) a ∨ ∃ (i : Nat) (d : D), ss[i]? = some (.own true d) ∧ vs[i]? = some (.ref a) := fun {a} o => by
    obtain ⟨i, b, d, e1, e2⟩ := o
    cases b with
    | false => exact .inl ⟨i, d, e1, e2⟩
    | true =>
      refine .inr ⟨i, d, e1, ?_⟩
      rw [List.getElem?_map] at e2
      cases q : vs[i]? with
      | none => rw [q] at e2; cases e2
      | some w => rw [q] at e2; cases e2; rfl
  -- a slot is given back or stays
  have slot : ∀ j : Nat, fr2[j]? = fr1[j]? ∧ (∀ (i : Nat) (d' : D), rs[i]? = some (.bor j) → outs[i]? ≠ some (.own true d')) ∨ ∃ (i : Nat) (b : Bool) (d d' : D) (a : Addr), rs[i]? = some (.bor j) ∧ fr1[j]? = some (.own b d) ∧ fr2[j]? = some (.own b d') ∧ σ[j]? = some (some (.ref a)) ∧ ¬ F2 a ∧ OwnRel K H2 F2 a d' := fun j => by
    by_cases hj : ∀ (i : Nat) (d' : D), rs[i]? = some (.bor j) → outs[i]? ≠ some (.own true d')
    · exact .inl ⟨ga j hj, hj⟩
    · refine .inr ?_
      simp only [Classical.not_forall, Classical.not_not] at hj
      obtain ⟨i, d', e1, e2⟩ := hj
      obtain ⟨b, d, f1, f2⟩ := gb i j d' e1 e2
      obtain ⟨v', e5⟩ := vat e1
      obtain ⟨q, n⟩ := x.get e5 e1
      have hi : i < ss.length := by rw [hl]; exact (List.getElem?_eq_some_iff.mp e1).1
      have es : ss[i]? = some ss[i] := List.getElem?_eq_getElem hi
      obtain ⟨r', e6, e7⟩ := hg i _ es
      rw [e1] at e6; cases e6
      simp only [argSl, f1] at e7
      have e7 : Sl.own true d = ss[i] := by simpa using e7
      rw [← e7] at es
      obtain ⟨d2, a, b1, b2, b3, b4⟩ := p.back i d es
      rw [e2] at b1
      cases b1
      rw [e5] at b2; cases b2
      exact ⟨i, b, d, d', a, e1, f1, f2, q.1, b3, b4⟩
  have own12 : ∀ {j : Nat} {b : Bool} {d : D}, fr2[j]? = some (.own b d) → ∃ d0, fr1[j]? = some (.own b d0) := fun {j b d} e => by
    rcases slot j with ⟨z, _⟩ | ⟨i, b', d1, d2, a, _, f1, f2, _⟩
    · exact ⟨d, z ▸ e⟩
    · rw [f2] at e; cases e; exact ⟨d1, f1⟩
  have sub2 : ∀ {a : Addr}, Own fr2 σ a → Own fr1 σ a := fun {a} o => by
    obtain ⟨j, b, d, e1, e2⟩ := o
    obtain ⟨d0, e3⟩ := own12 e1
    exact ⟨j, b, d0, e3, e2⟩
  refine ⟨⟨⟨p.fh, fun j d e1 => ?_, fun j b d e1 => ?_, fun i j a b c d d' e1 e2 s1 s2 => ?_, by rw [gl]; exact s.ok.len⟩, fun a z => p.le a (s.le a z), fun a z => ?_, fun a z n => ?_, fun a z => p.alive a (s.alive a z), fun j b d e1 => ?_, fun j d e1 => ?_, fun j t e1 n => ?_⟩, ?_, ?_⟩
  · rcases slot j with ⟨z, _⟩ | ⟨i, b', d1, d2, a, _, f1, f2, _⟩
    · rw [z] at e1
      obtain ⟨w, e2, rw'⟩ := s.ok.val j d e1
      exact ⟨w, e2, rw'.mono p.le hF⟩
    · rw [f2] at e1; cases e1
  · rcases slot j with ⟨z, nb⟩ | ⟨i, b', d1, d2, a, _, f1, f2, f3, f4, f5⟩
    · rw [z] at e1
      obtain ⟨a, e2, nf, ro⟩ := s.ok.own j b d e1
      have oa : Own fr1 σ a := ⟨j, b, d, e1, e2⟩
      have no : ¬ Own ss (vs.map some) a := fun o => by
        rcases oAny o with o | ⟨i, d', e3, e4⟩
        · exact (oF o).2 oa
        · obtain ⟨k, b2, e5, e6, e7⟩ := oT e3 e4
          have : k = j := s.ok.inj k j a b2 b d' d e6 e1 e7 e2
          subst this
          obtain ⟨d2, a', b1, _⟩ := p.back i d' e3
          exact nb i d2 e5 b1
      refine ⟨a, e2, fun f => ?_, ro.mono p.le hF (p.keep a ro.some no)⟩
      rcases p.new a f with f | f | f
      · exact nf f
      · exact ro.some f
      · exact no f.own
    · rw [f2] at e1; cases e1
      exact ⟨a, f3, f4, f5⟩
  · obtain ⟨d1, f1⟩ := own12 e1
    obtain ⟨d2, f2⟩ := own12 e2
    exact s.ok.inj i j a b c d1 d2 f1 f2 s1 s2
  · rcases p.new a z with z | z | z
    · exact s.new a z
    · refine .inr (.inl ?_)
      cases q : H a with
      | none => rfl
      | some o => exact absurd z (s.alive a (by rw [q]; simp))
    · exact .inr (.inl (oF z).1)
  · have h1 := s.keep a z n
    rw [p.keep a (by rw [h1]; exact z) fun o => ?_, h1]
    rcases oAny o with o | ⟨i, d', e3, e4⟩
    · exact z (oF o).1
    · obtain ⟨k, b2, e5, e6, e7⟩ := oT e3 e4
      exact n (s.subO ⟨k, b2, d', e6, e7⟩)
  · obtain ⟨d1, f1⟩ := own12 e1
    exact s.sub j b d1 f1
  · obtain ⟨d1, f1⟩ := s.bor j d e1
    rcases slot j with ⟨z, _⟩ | ⟨i, b', d1, d2, a, _, f3, f2, _⟩
    · exact ⟨d1, by rw [z]; exact f1⟩
    · rw [f1] at f3; cases f3
      exact ⟨d2, f2⟩
  · obtain ⟨t1, f1, n1⟩ := s.live j t e1 n
    rcases slot j with ⟨z, _⟩ | ⟨i, b', d1, d2, a, _, f3, f2, _⟩
    · exact ⟨t1, by rw [z]; exact f1, n1⟩
    · exact ⟨_, f2, fun z => by cases z⟩
  · have pr := p.res
    cases r with
    | val d => exact pr
    | tmp d =>
      obtain ⟨a, ea, nf, ro, ho, nb⟩ := pr
      refine ⟨a, ea, nf, fun o => ?_, ro⟩
      have o1 := sub2 o
      rcases ho with ho | ho
      · exact s.ok.there o1 ho
      · exact (oF ho).2 o1
    | bor i => exact pr.elim
  · have pr := p.res
    cases r with
    | val d => trivial
    | tmp d =>
      obtain ⟨a, ea, nf, ro, ho, nb⟩ := pr
      intro a' e'
      rw [ea] at e'
      cases e'
      rcases ho with ho | ho
      · cases q : H a with
        | none => rfl
        | some o => exact absurd ho (s.alive a (by rw [q]; simp))
      · exact (oF ho).1
    | bor i => trivial
end
section
variable {C : WC} {X : Cx} {c : Ctx}
theorem call_sound (ok : CtxOk C X c) {f : Nat} {x : Str} {es : CXs} {e : Expr} {l : List Expr} {p pos : Pos} (hf : c.fns[f]? = some x) (hg : glB c.sc x = true) (hp : plainN x = true) (h : SEL C X es (e :: l)) : PE X (.Call (.Name x p) (e :: l) [] pos) (semE X (wE C (.call f es))) := by
  obtain ⟨k, hr, fns⟩ := ok.fns
  obtain ⟨a, fd, ps, hm, hk, hb, hlen, F⟩ := fns f x hf
  obtain ⟨n1, n2, n3⟩ := plainN_ne hp
  have hs := h.stars
  have hs1 := hs e List.mem_cons_self
  have hx : Passes CX0 X E0 := pass0
  refine pe_imp (pe_call F hr (ok.gl hg) hm hk hb .nil hx (pa_of h) n1 (star_of hs1) (stars_of fun y hy => hs y (List.mem_cons_of_mem _ hy))) fun σ H Q q => ?_
  obtain ⟨fr, F, R, h0, q, k⟩ := q
  refine ⟨fr, F, _, h0, q, fun rs fr1 vs H1 F1 hR s o => ?_⟩
  cases e1 : argSls fr1 rs with
  | none => rw [e1] at hR; exact hR.elim
  | some ss =>
    rw [e1] at hR
    obtain ⟨nd, hR⟩ := hR
    rw [List.append_nil]
    have ao := args_ok s.ok o e1 nd
    refine ⟨F1, ss, _, ?_, ao, hR, fun r outs v F2 H2 hq p => ?_⟩
    · have := ao.len
      rw [List.length_map] at this
      rw [← this]
      exact hlen ss _ hR
    · obtain ⟨fr2, g, hq⟩ := hq
      obtain ⟨s2, o2, n2⟩ := giveBack_ok h0 s o e1 nd p g
      exact k r fr2 v H2 F2 hq s2 o2 n2
end
end QL
set_option maxHeartbeats 1200000
/-! QK: targets, slots that are forgotten -/
namespace QL
open PySem L2
def ctSlots : CT → List Nat
  | .n i => [i]
  | .t is => is
  | .t2 i is => i :: is
def gNames : List Nat → TGs
  | [] => gNil
  | i :: is => gCons (gName i) (gNames is)
def gOf (K : PySem.W.Frag) : CT → TG
  | .n i => gName i
  | .t is => gTup K is.length (gNames is)
  | .t2 i is => gTup K 2 (gCons (gName i) (gCons (gTup K is.length (gNames is)) gNil))
section
variable {C : WC} {X : Cx} {c : Ctx}
theorem chkName_sound (ok : CtxOk C X c) {i : Nat} {e : Expr} (h : chkName c i e = true) : PG X e (gName i) ∧ noStar e = true := by
  cases e with
  | Name x p =>
    obtain ⟨h1, h2⟩ := and_of h
    obtain ⟨l1, l2⟩ := ok.loc h2
    refine ⟨pg_name (by rw [ok.N]; exact ok.nd) (by rw [ok.N]; exact of_decide_eq_true h1) l1 l2, rfl⟩
  | _ => cases h
theorem chkNames_sound (ok : CtxOk C X c) : ∀ {is : List Nat} {es : List Expr}, chkNames c is es = true → PGs X es (gNames is) ∧ (∀ e ∈ es, noStar e = true) ∧ es.length = is.length
  | [], [], _ => ⟨pgs_nil, fun e he => (by cases he), rfl⟩
  | i :: is, e :: es, h => by
    obtain ⟨h1, h2⟩ := and_of h
    obtain ⟨p1, s1⟩ := chkName_sound ok h1
    obtain ⟨p2, s2, l2⟩ := chkNames_sound ok h2
    have hs : ∀ y ∈ e :: es, noStar y = true := fun y hy => by
      rcases List.mem_cons.1 hy with rfl | hy
      · exact s1
      · exact s2 y hy
    refine ⟨pgs_cons p1 p2 ?_, hs, by simp [l2]⟩
    rw [assigns_of hs, assigns_of s2]
    simp
  | [], _ :: _, h => by cases h
  | _ :: _, [], h => by cases h
theorem find_none {env : Env} {es : List Expr} (h : ∀ e ∈ es, noStar e = true) : (assignEach es env).findIdx? (·.1) = none := by
  rw [assigns_of h, List.findIdx?_eq_none_iff]
  intro x hx
  obtain ⟨e, _, rfl⟩ := List.mem_map.mp hx
  rfl
theorem pg_names (ok : CtxOk C X c) {is : List Nat} {es : List Expr} {k : Nat} {pos : Pos} (h : chkNames c is es = true) : PG X (.Tuple es k pos) (gTup X.K is.length (gNames is)) := by
  obtain ⟨p, s, l⟩ := chkNames_sound ok h
  exact pg_tup ok.calm p (by rw [assigns_of s, List.length_map, l]) (find_none s)
theorem chkT_sound (ok : CtxOk C X c) {t : CT} {e : Expr} (h : chkT c t e = true) : PG X e (gOf X.K t) := by
  cases t with
  | n i => exact (chkName_sound ok h).1
  | t is =>
    cases e with
    | Tuple es k p =>
      exact pg_names ok (and_of h).2
    | _ => cases h
  | t2 i is =>
    unfold chkT at h
    split at h
    · rename_i heq; cases heq
    · rename_i heq; cases heq
    · rename_i i' is' e1 es1 k1 p1 k2 p2 heq
      cases heq
      obtain ⟨h12, h3⟩ := and_of h
      obtain ⟨h1, h2⟩ := and_of h12
      obtain ⟨q1, s1⟩ := chkName_sound ok h1
      have q2 := pg_names (k := k1) (pos := p1) ok h3
      have hs : ∀ y ∈ [e1, Expr.Tuple es1 k1 p1], noStar y = true := fun y hy => by
        rcases List.mem_cons.1 hy with rfl | hy
        · exact s1
        · rcases List.mem_cons.1 hy with rfl | hy
          · rfl
          · cases hy
      refine pg_tup ok.calm (pgs_cons q1 (pgs_cons q2 pgs_nil rfl) ?_) ?_ (find_none hs)
      · rw [assigns_of hs]
        rfl
      · rw [assigns_of hs]
        rfl
    · cases h
end
section
variable {K : PySem.W.Frag} {H : Hp} {F : Addr → Prop}
theorem putSl_eq {fr fr' : Fr} {i : Nat} {s : Sl} (h : putSl fr i s = some fr') : fr' = fr.set i s ∧ i < fr.length ∧ ∀ d, fr[i]? ≠ some (.own true d) := by
  unfold putSl at h
  cases e : fr[i]? with
  | none => (rw [e] at h; cases h)
  | some t =>
    have hi := (List.getElem?_eq_some_iff.mp e).1
    rw [e] at h
    cases t with
    | none => cases h; exact ⟨rfl, hi, fun d z => by cases z⟩
    | val d => cases h; exact ⟨rfl, hi, fun d z => by cases z⟩
    | own b d =>
      cases b with
      | true => cases h
      | false => cases h; exact ⟨rfl, hi, fun d z => by cases z⟩
/-- a frozen value is stored -/
theorem FrOk.put {σ : Sg} {fr : Fr} (ok : FrOk K H F σ fr) {i : Nat} {v : V} {d : D} (hi : i < fr.length) (r : Rep K H F v d) : FrOk K H F (σ.set i (some v)) (fr.set i (.val d)) := by
  have hi' : i < σ.length := by rw [← ok.len]; exact hi
  have o : ∀ {j : Nat} {b : Bool} {x : D}, (fr.set i (.val d))[j]? = some (.own b x) → i ≠ j ∧ fr[j]? = some (.own b x) := fun {j b x} e => by
    by_cases hj : i = j
    · subst hj
      rw [List.getElem?_set_self hi] at e
      cases e
    · rw [get_set_ne hj] at e
      exact ⟨hj, e⟩
  refine ⟨ok.fh, fun j x e => ?_, fun j b x e => ?_, fun j k a b c x y e1 e2 s1 s2 => ?_, by rw [List.length_set, List.length_set]; exact ok.len⟩
  · by_cases hj : i = j
    · subst hj
      rw [List.getElem?_set_self hi] at e
      cases e
      exact ⟨v, List.getElem?_set_self hi', r⟩
    · rw [get_set_ne hj] at e
      rw [List.getElem?_set_ne hj]
      exact ok.val j x e
  · obtain ⟨hj, e⟩ := o e
    rw [List.getElem?_set_ne hj]
    exact ok.own j b x e
  · obtain ⟨h1, f1⟩ := o e1
    obtain ⟨h2, f2⟩ := o e2
    rw [List.getElem?_set_ne h1] at s1
    rw [List.getElem?_set_ne h2] at s2
    exact ok.inj j k a b c x y f1 f2 s1 s2
/-- behind an assignment: only the target's slots changed -/
structure Asg (σ : Sg) (fr : Fr) (is : List Nat) (σ' : Sg) (fr' : Fr) : Prop where
  out : ∀ j, j ∉ is → σ'[j]? = σ[j]? ∧ fr'[j]? = fr[j]?
  inn : ∀ j, j ∈ is → ∀ s, fr'[j]? = some s → ∃ d, s = .val d
  nobor : ∀ j, j ∈ is → ∀ d, fr[j]? ≠ some (.own true d)
  len : σ'.length = σ.length ∧ fr'.length = fr.length
theorem asgAll_ok : ∀ {is : List Nat} {ds : List D} {vs : List V} {σ : Sg} {fr fr' : Fr} {Q : L2.St → Hp → Prop}, FrOk K H F σ fr → RepL K H F vs ds → asgAll fr is ds = some fr' →
    (∀ σ', FrOk K H F σ' fr' → Asg σ fr is σ' fr' → Q σ' H) → gNames is vs σ H Q
  | [], [], _, σ, fr, fr', Q, ok, .nil, e, k => by
    simp only [asgAll, Option.some.injEq] at e
    subst e
    exact ⟨rfl, k σ ok ⟨fun j _ => ⟨rfl, rfl⟩, fun j hj => (by cases hj), fun j hj => (by cases hj), rfl, rfl⟩⟩
  | i :: is, d :: ds, _, σ, fr, fr', Q, ok, .cons h r, e, k => by
    simp only [asgAll] at e
    cases e1 : putSl fr i (.val d) with
    | none => rw [e1] at e; cases e
    | some fr1 =>
      rw [e1] at e
      have e : asgAll fr1 is ds = some fr' := e
      obtain ⟨rfl, hi, nb⟩ := putSl_eq e1
      refine ⟨_, _, rfl, ?_⟩
      refine asgAll_ok (ok.put hi h) r e fun σ' ok' a => k σ' ok' ⟨fun j hj => ?_, fun j hj s es => ?_, fun j hj x => ?_, ?_, ?_⟩
      · obtain ⟨a1, a2⟩ := a.out j fun z => hj (List.mem_cons_of_mem _ z)
        have hij : i ≠ j := fun z => hj (z ▸ List.mem_cons_self)
        rw [a1, a2, List.getElem?_set_ne hij, get_set_ne hij]
        exact ⟨rfl, rfl⟩
      · by_cases hj2 : j ∈ is
        · exact a.inn j hj2 s es
        · have hij : i = j := by
            rcases List.mem_cons.1 hj with z | z
            · exact z.symm
            · exact absurd z hj2
          subst hij
          rw [(a.out i hj2).2, List.getElem?_set_self hi] at es
          cases es
          exact ⟨d, rfl⟩
      · by_cases hij : i = j
        · subst hij
          exact nb x
        · rcases List.mem_cons.1 hj with z | z
          · exact absurd z.symm hij
          · have := a.nobor j z x
            rwa [get_set_ne hij] at this
      · rw [a.len.1, List.length_set]
      · rw [a.len.2, List.length_set]
  | [], _ :: _, _, _, _, _, _, _, _, e, _ => by simp [asgAll] at e
  | _ :: _, [], _, _, _, _, _, _, _, e, _ => by simp [asgAll] at e
theorem asgAll_len : ∀ {is : List Nat} {ds : List D} {fr fr' : Fr}, asgAll fr is ds = some fr' → ds.length = is.length
  | [], [], _, _, _ => rfl
  | i :: is, d :: ds, fr, fr', e => by
    simp only [asgAll] at e
    cases e1 : putSl fr i (.val d) with
    | none => rw [e1] at e; cases e
    | some fr1 =>
      rw [e1] at e
      simp [asgAll_len (is := is) (ds := ds) (fr := fr1) e]
  | [], _ :: _, _, _, e => by simp [asgAll] at e
  | _ :: _, [], _, _, e => by simp [asgAll] at e
theorem asgT_t2 {fr fr' : Fr} {i : Nat} {is : List Nat} {d : D} (e : asgT fr (.t2 i is) d = some fr') : ∃ d1 ds, d = .tup [d1, .tup ds] ∧ ((putSl fr i (.val d1)).bind fun f => asgAll f is ds) = some fr' := by
  cases d with
  | tup l =>
    cases l with
    | nil => simp [asgT] at e
    | cons d1 l =>
      cases l with
      | nil => simp [asgT] at e
      | cons d2 l =>
        cases l with
        | nil =>
          cases d2 <;> first | (simp [asgT] at e; done) | skip
          exact ⟨_, _, rfl, e⟩
        | cons _ _ => cases d2 <;> simp [asgT] at e
  | _ => simp [asgT] at e
theorem asg_ok {t : CT} {v : V} {d : D} {σ : Sg} {fr fr' : Fr} {Q : L2.St → Hp → Prop} (ok : FrOk K H F σ fr) (r : Rep K H F v d) (e : asgT fr t d = some fr')
    (k : ∀ σ', FrOk K H F σ' fr' → Asg σ fr (ctSlots t) σ' fr' → Q σ' H) : gOf K t v σ H Q := by
  cases t with
  | n i =>
    obtain ⟨rfl, hi, nb⟩ := putSl_eq (show putSl fr i (.val d) = some fr' from e)
    refine k _ (ok.put hi r) ⟨fun j hj => ?_, fun j hj s es => ?_, fun j hj x => ?_, List.length_set, List.length_set⟩
    · have hij : i ≠ j := fun z => hj (by simp [ctSlots, z])
      exact ⟨List.getElem?_set_ne hij, get_set_ne hij⟩
    · have hij : j = i := by simpa [ctSlots] using hj
      subst hij
      rw [List.getElem?_set_self hi] at es
      cases es
      exact ⟨d, rfl⟩
    · have hij : j = i := by simpa [ctSlots] using hj
      subst hij
      exact nb x
  | t is =>
    cases d with
    | tup ds =>
      have e : asgAll fr is ds = some fr' := e
      cases r with
      | tup hz rl => exact ⟨_, _, rfl, hz.sq, by rw [rl.length, asgAll_len e], asgAll_ok ok rl e k⟩
    | _ => cases e
  | t2 i is =>
    obtain ⟨d1, ds, rfl, ee⟩ := asgT_t2 e
    clear e
    have e := ee
    clear ee
    · cases e1 : putSl fr i (.val d1) with
      | none => rw [e1] at e; cases e
      | some fr1 =>
        rw [e1] at e
        have e : asgAll fr1 is ds = some fr' := e
        obtain ⟨rfl, hi, nb⟩ := putSl_eq e1
        cases r with
        | tup hz rl =>
          cases rl with
          | cons r1 rl2 =>
            cases rl2 with
            | cons r2 rl3 =>
              cases rl3
              cases r2 with
              | tup hz2 rl4 =>
                refine ⟨_, _, rfl, hz.sq, rfl, _, _, rfl, _, _, rfl, ⟨_, _, rfl, hz2.sq, by rw [rl4.length, asgAll_len e], ?_⟩⟩
                refine asgAll_ok (ok.put hi r1) rl4 e fun σ' ok' a => ⟨rfl, k σ' ok' ⟨fun j hj => ?_, fun j hj s es => ?_, fun j hj x => ?_, ?_, ?_⟩⟩
                · obtain ⟨a1, a2⟩ := a.out j fun z => hj (List.mem_cons_of_mem _ z)
                  have hij : i ≠ j := fun z => hj (z ▸ List.mem_cons_self)
                  rw [a1, a2, List.getElem?_set_ne hij, get_set_ne hij]
                  exact ⟨rfl, rfl⟩
                · by_cases hj2 : j ∈ is
                  · exact a.inn j hj2 s es
                  · have hij : i = j := by
                      rcases List.mem_cons.1 hj with z | z
                      · exact z.symm
                      · exact absurd z hj2
                    subst hij
                    rw [(a.out i hj2).2, List.getElem?_set_self hi] at es
                    cases es
                    exact ⟨d1, rfl⟩
                · by_cases hij : i = j
                  · subst hij
                    exact nb x
                  · rcases List.mem_cons.1 hj with z | z
                    · exact absurd z.symm hij
                    · have := a.nobor j z x
                      rwa [get_set_ne hij] at this
                · rw [a.len.1, List.length_set]
                · rw [a.len.2, List.length_set]
/-- what an iterator gives: a value, or a pair of its own -/
inductive ItRep (K : PySem.W.Frag) (H : Hp) (F : Addr → Prop) (b : Bool) : V → D → Prop
  | rep {v : V} {d : D} : Rep K H F v d → ItRep K H F b v d
  | pair {T : Addr} {y z : V} {dy dz : D} : b = true → H T = some (.tup [y, z]) → Rep K H F y dy → Rep K H F z dz → ItRep K H F b (.ref T) (.tup [dy, dz])
theorem asg_it {t : CT} {b : Bool} {v : V} {d : D} {σ : Sg} {fr fr' : Fr} {Q : L2.St → Hp → Prop} (ok : FrOk K H F σ fr) (r : ItRep K H F b v d) (hp : b = true → ctPair t = true) (e : asgT fr t d = some fr')
    (k : ∀ σ', FrOk K H F σ' fr' → Asg σ fr (ctSlots t) σ' fr' → Q σ' H) : gOf K t v σ H Q := by
  cases r with
  | rep r => exact asg_ok ok r e k
  | @pair T y z dy dz hb hT ry rz =>
    cases t with
    | n i => exact absurd (hp hb) (by simp [ctPair])
    | t is =>
      have e : asgAll fr is [dy, dz] = some fr' := e
      have rl : RepL K H F [y, z] [dy, dz] := .cons ry (.cons rz .nil)
      exact ⟨_, _, rfl, .inl (.inl hT), by rw [rl.length, asgAll_len e], asgAll_ok ok rl e k⟩
    | t2 i is =>
      obtain ⟨d1, ds, ed, ee⟩ := asgT_t2 e
      cases ed
      cases e1 : putSl fr i (.val dy) with
      | none => rw [e1] at ee; cases ee
      | some fr1 =>
        rw [e1] at ee
        have ee : asgAll fr1 is ds = some fr' := ee
        obtain ⟨rfl, hi, nb⟩ := putSl_eq e1
        cases rz with
        | tup hz2 rl4 =>
          refine ⟨_, _, rfl, .inl (.inl hT), rfl, _, _, rfl, _, _, rfl, ⟨_, _, rfl, hz2.sq, by rw [rl4.length, asgAll_len ee], ?_⟩⟩
          refine asgAll_ok (ok.put hi ry) rl4 ee fun σ' ok' a => ⟨rfl, k σ' ok' ⟨fun j hj => ?_, fun j hj s es => ?_, fun j hj x => ?_, ?_, ?_⟩⟩
          · obtain ⟨a1, a2⟩ := a.out j fun z => hj (List.mem_cons_of_mem _ z)
            have hij : i ≠ j := fun z => hj (z ▸ List.mem_cons_self)
            rw [a1, a2, List.getElem?_set_ne hij, get_set_ne hij]
            exact ⟨rfl, rfl⟩
          · by_cases hj2 : j ∈ is
            · exact a.inn j hj2 s es
            · have hij : i = j := by
                rcases List.mem_cons.1 hj with z | z
                · exact z.symm
                · exact absurd z hj2
              subst hij
              rw [(a.out i hj2).2, List.getElem?_set_self hi] at es
              cases es
              exact ⟨dy, rfl⟩
          · by_cases hij : i = j
            · subst hij
              exact nb x
            · rcases List.mem_cons.1 hj with z | z
              · exact absurd z.symm hij
              · have := a.nobor j z x
                rwa [get_set_ne hij] at this
          · rw [a.len.1, List.length_set]
          · rw [a.len.2, List.length_set]
theorem itemsT_of {t : CT} {src : Src} {sv xs : List D} (h : itemsT t src sv = some xs) : itemsOf src sv = some xs ∧ (srcPr src = true → ctPair t = true) := by
  cases t with
  | n i => cases src <;> first | exact ⟨h, fun z => by cases z⟩ | cases h
  | t is => exact ⟨h, fun _ => rfl⟩
  | t2 i is => exact ⟨h, fun _ => rfl⟩
/-! ### slots forgotten -/
theorem wipeF_out {fr : Fr} {os : List Nat} {j : Nat} (h : j ∉ os) : (wipeF fr os)[j]? = fr[j]? := by
  induction os with
  | nil => rfl
  | cons o os ih =>
    have h1 : o ≠ j := fun z => h (z ▸ List.mem_cons_self)
    show ((wipeF fr os).set o .none)[j]? = _
    rw [List.getElem?_set_ne h1]
    exact ih fun z => h (List.mem_cons_of_mem _ z)
theorem wipeF_len {fr : Fr} {os : List Nat} : (wipeF fr os).length = fr.length := by
  induction os with
  | nil => rfl
  | cons o os ih =>
    show ((wipeF fr os).set o .none).length = _
    rw [List.length_set]
    exact ih
theorem wipeF_in {fr : Fr} {os : List Nat} {j : Nat} {s : Sl} (h : j ∈ os) (e : (wipeF fr os)[j]? = some s) : s = .none := by
  induction os with
  | nil => cases h
  | cons o os ih =>
    have e : ((wipeF fr os).set o .none)[j]? = some s := e
    by_cases ho : o = j
    · subst ho
      by_cases hl : o < (wipeF fr os).length
      · rw [List.getElem?_set_self hl] at e
        cases e; rfl
      · rw [List.getElem?_eq_none (by rw [List.length_set]; omega)] at e
        cases e
    · rw [List.getElem?_set_ne ho] at e
      rcases List.mem_cons.1 h with z | z
      · exact absurd z.symm ho
      · exact ih z e
theorem wipe_out {σ : Sg} {os : List Nat} {j : Nat} (h : j ∉ os) : (wipe σ os)[j]? = σ[j]? := by
  induction os with
  | nil => rfl
  | cons o os ih =>
    have h1 : o ≠ j := fun z => h (z ▸ List.mem_cons_self)
    show ((wipe σ os).set o none)[j]? = _
    rw [List.getElem?_set_ne h1]
    exact ih fun z => h (List.mem_cons_of_mem _ z)
theorem wipe_in {σ σ' : Sg} {os : List Nat} {j : Nat} (hl : σ.length = σ'.length) (h : j ∈ os) : (wipe σ os)[j]? = (wipe σ' os)[j]? := by
  induction os with
  | nil => cases h
  | cons o os ih =>
    show ((wipe σ os).set o none)[j]? = ((wipe σ' os).set o none)[j]?
    by_cases ho : o = j
    · subst ho
      rw [List.getElem?_set, List.getElem?_set, if_pos rfl, if_pos rfl, wipe_length, wipe_length, hl]
    · rw [List.getElem?_set_ne ho, List.getElem?_set_ne ho]
      rcases List.mem_cons.1 h with z | z
      · exact absurd z.symm ho
      · exact ih z
/-- only forgotten slots differ -/
theorem wipe_eq {σ σ' : Sg} {os : List Nat} (hl : σ.length = σ'.length) (h : ∀ j, j ∉ os → σ[j]? = σ'[j]?) : wipe σ os = wipe σ' os := by
  apply List.ext_getElem?
  intro j
  by_cases hj : j ∈ os
  · exact wipe_in hl hj
  · rw [wipe_out hj, wipe_out hj]
    exact h j hj
theorem wipe_wipe {σ : Sg} {os : List Nat} : wipe (wipe σ os) os = wipe σ os := wipe_eq (wipe_length σ os) fun j hj => wipe_out hj
end
end QL
set_option maxHeartbeats 1200000
/-! QM: what a loop or a comprehension walks -/
namespace QL
open PySem L2
section
variable {X : Cx} {tg : Expr}
/-- a list or a tuple -/
def iSeq (K : PySem.W.Frag) (tl : TE) : TI := fun σ H R => tl σ H fun x HB => ∃ a, x = .ref a ∧ (((∃ xs, SqL K HB a xs) ∧ R (Itl K a) HB) ∨ ((∃ xs, SqT K HB a xs) ∧ R (Itt K a) HB))
theorem pi_seq {l : Expr} {tl : TE} (hl : PE X l tl) : PI X tg l (iSeq X.K tl) := by
  refine ⟨fun pn s σ H R I h => ?_⟩
  refine thn (hl.run pn s σ H _ I h) fun v sB ⟨x, HB, IB, rB, qB⟩ => ?_
  obtain ⟨a, e, qq⟩ := qB
  subst e
  cases rB
  rcases qq with ⟨⟨xs, hsq⟩, qq⟩ | ⟨⟨xs, hsq⟩, qq⟩
  · obtain ⟨ws, rvl, p, hzz⟩ := IB.list hsq
    refine wpAny_pyIter_list (p.isList) ?_
    refine ⟨sB.heap.objs.size, [sB.heap.objs.size], _, _, HB, rfl, IB.kept (t' := sB.toks) fun b o e => Heap.get?_push_of_some _ e, turn_list a _, ⟨_, Heap.get?_push_size _ rfl, rfl, rfl⟩, fun b hbb => ?_, qq⟩
    have e : b = sB.heap.objs.size := by simpa using hbb
    subst e
    exact IB.fpOk (Nat.le_refl _) (IB.hok.fresh (Nat.le_refl _))
  · obtain ⟨ws, rvl, p, hzz⟩ := IB.tuple hsq
    refine wpAny_pyIter_tuple (show sB.heap.IsTuple a ws.toArray from p) ?_
    refine ⟨sB.heap.objs.size, [sB.heap.objs.size], _, _, HB, rfl, IB.kept (t' := sB.toks) fun b o e => Heap.get?_push_of_some _ e, turn_tuple a _, ⟨_, Heap.get?_push_size _ rfl, rfl, rfl⟩, fun b hbb => ?_, qq⟩
    have e : b = sB.heap.objs.size := by simpa using hbb
    subst e
    exact IB.fpOk (Nat.le_refl _) (IB.hok.fresh (Nat.le_refl _))
end
section
open Sem (wp)
set_option maxHeartbeats 1300000 in
theorem meets_enum_newT (t : Addr) (items : Array Value) :
    Meets (Builtin.«enumerate.__new__» ⟨[.type "enumerate", .ref t], []⟩) (fun _ R s => s.heap.IsTuple t items ∧
      R (.ok (.ret (.ref (s.heap.push { cls := .type "tuple_iterator", data := .fields #[.ref t, .int 0 0] }).objs.size)))
        { s with heap := (s.heap.push { cls := .type "tuple_iterator", data := .fields #[.ref t, .int 0 0] }).push { cls := .type "enumerate", data := .fields #[.none, .bool false, .ref s.heap.objs.size, rawInt 0, .none, .none] } }) :=
  .of_wp fun prog w A R sh h => by
    obtain ⟨hp, g, d, tk, os⟩ := sh
    obtain ⟨hT, h⟩ := h
    have hsub := sub_enumerate
    have qB : ∀ {A' : Around} {E : Value → Shared → Prop} {Q : Value → Shared → Prop}, Q (.ref hp.objs.size) ⟨hp.push { cls := .type "tuple_iterator", data := .fields #[.ref t, .int 0 0] }, g, d, tk, os⟩ → wpAny (model prog w) A' (pyIter (.ref t)) Q E ⟨hp, g, d, tk, os⟩ :=
      fun qq => wpAny_pyIter_tuple hT qq
    wp_walk using qB
    refine wpAny_stack_any fun stt => wpAny_pure ?_
    split
    · rename_i c _ _ _ _ _
      cases (c == (Value.type "enumerate"))
      · wp_walk using qB
        exact ⟨_, rfl, h⟩
      · wp_walk using qB
        exact ⟨_, rfl, h⟩
    · wp_walk using qB
      exact ⟨_, rfl, h⟩
end
section
variable {w : World} {prog : Program} {A : Around} {s : Shared} {E : Value → Shared → Prop}
theorem call_enum_tuple {t : Addr} {items : Array Value} {Q : Value → Shared → Prop} (hT : s.heap.IsTuple t items)
    (h : ∀ h', IsEnum h' (s.heap.objs.size + 1) s.heap.objs.size 0 .none → h'.IsTupleIter s.heap.objs.size t 0 → h'.objs.size = s.heap.objs.size + 2 →
      (∀ c u, s.heap.get? c = some u → h'.get? c = some u) → Q (.ref (s.heap.objs.size + 1)) { s with heap := h' }) :
    wpAny (model prog w) A (call (.type "enumerate") [.ref t]) Q E s := by
  refine callType_new (F.called_enumerate) (by decide) (F.typeCall_enumerate_1 _) (F.newCall_enumerate_1 _) (fun obj => F.args_object_init_2 obj _) F.entry_enumerate_new
    (meets_enum_newT t items) ⟨hT, ?_⟩
  have hzz : (s.heap.push { cls := .type "tuple_iterator", data := .fields #[.ref t, .int 0 0] }).objs.size = s.heap.objs.size + 1 := Heap.size_push ..
  show _ ∧ _
  rw [hzz]
  have hen : IsEnum ((s.heap.push { cls := .type "tuple_iterator", data := .fields #[.ref t, .int 0 0] }).push
      { cls := .type "enumerate", data := .fields #[.none, .bool false, .ref (s.heap.objs.size), rawInt 0, .none, .none] }) (s.heap.objs.size + 1) s.heap.objs.size 0 .none := by
    have := Heap.get?_push_size (s.heap.push { cls := .type "tuple_iterator", data := .fields #[.ref t, .int 0 0] })
      (o := { cls := .type "enumerate", data := .fields #[.none, .bool false, .ref (s.heap.objs.size), rawInt 0, .none, .none] }) rfl
    rw [hzz] at this; exact this
  refine ⟨⟨_, hen, rfl⟩, h _ hen ⟨_, Heap.get?_push_of_some _ (Heap.get?_push_size _ rfl), rfl, rfl⟩ (by rw [Heap.size_push, hzz]) fun b o y => Heap.get?_push_of_some _ (Heap.get?_push_of_some _ y)⟩
end
/-- the tuple at a, each item with ws place in a new pair -/
def IteT (K : PySem.W.Frag) (a : Addr) : It :=
  ⟨fun i H => ∃ (xs : List V) (x : V), SqT K H a xs ∧ xs[i]? = some x, fun i H v H' => ∃ T x, v = .ref T ∧ H T = none ∧ H' = upd H T (.tup [.int (i : Nat), x]) ∧ ∀ xs, SqT K H a xs → xs[i]? = some x, fun i H => ∃ xs : List V, SqT K H a xs ∧ xs.length = i⟩
theorem turn_enumT {P : Program} {w : World} {K : PySem.W.Frag} {elts : List Expr} {kk : Nat} {tpos : Pos} (a e it : Addr) (hai : a ≠ it) :
    Turn P w K (.Tuple elts kk tpos) (IteT K a) [e, it] e (fun i h => (∃ old0, IsEnum h e it ((i : Nat) : Int) old0) ∧ h.IsTupleIter it a i ∧ e ≠ it ∧ a ≠ e) where
  mem := by simp
  obj := fun i h stt b hbb => by
    obtain ⟨⟨old0, hen⟩, ⟨o, ho, hcc, hdt⟩, _⟩ := stt
    have eq' : b = e ∨ b = it := by simpa using hbb
    rcases eq' with zz | zz
    · rw [zz]; exact ⟨_, hen, fun v qq => nomatch qq⟩
    · rw [zz]; exact ⟨o, ho, fun v qq => by rw [hdt] at qq; cases qq⟩
  keep := fun i h h' stt k => let ⟨⟨old0, hen⟩, hi, hne⟩ := stt; ⟨⟨old0, k e (by simp) _ hen⟩, hi.at fun o qq => k it (by simp) o qq, hne⟩
  item := by
    intro X hP hw hK hcc i pn s σ H E I hfp0 stt hg
    subst hP hw hK
    obtain ⟨⟨old0, hen⟩, hitr, hne, hae⟩ := stt
    obtain ⟨xs, x, hsq, hxx⟩ := hg
    obtain ⟨ws, rvl, p, hzz⟩ := I.tuple hsq
    obtain ⟨u, hu, ru⟩ := rvl.get hxx
    have hel0 : e < s.heap.objs.size := Heap.lt_size hen
    have hil0 : it < s.heap.objs.size := by obtain ⟨_, qq, _⟩ := hitr; exact Heap.lt_size qq
    have hin : i < ws.toArray.size := by
      have := (List.getElem?_eq_some_iff.mp hu).1
      simpa using this
    have hh : X.A.in1.handled = none := I.ok.hd hcc
    refine wpAny_pyNext_enum_itemD (Draws.tuple hh it a hai ws.toArray) hen ⟨hitr, (show s.heap.IsTuple a ws.toArray from p)⟩ hin hne (by simp [hne, Ne.symm hae]) fun v h' tk hv ho hst' hT hsz hk => ?_
    have ev : v = u := by
      have h1 : ws.toArray[i]? = some v := hv
      have h2 : ws.toArray[i]? = some u := by simpa using hu
      rw [h1] at h2
      exact Option.some.inj h2
    subst ev
    refine ⟨_, rfl, wpAny_letOwnedTupleGo_enum (s := { s with heap := h', toks := tk + 1 }) ho fun h'' he' sb => ?_⟩
    have hT2 : h''.get? s.heap.objs.size = some { cls := .type "tuple", data := .seq #[.int i tk, v] } := (sb.2 _ (Nat.ne_of_gt hel0)).trans hT
    have nw : ObjOk X.prog X.w (upd H s.heap.objs.size (.tup [.int (i : Nat), x])) h'' s.heap.objs.size (.tup [.int (i : Nat), x]) :=
      ⟨by show 2 ≤ sizeLine; decide, [.int i tk, v], .cons ⟨_, rfl⟩ (.cons ru .nil), ⟨_, hT2, rfl, _, rfl⟩⟩
    have IB : Inv X pn σ (upd H s.heap.objs.size (.tup [.int (i : Nat), x])) { s with heap := h'', toks := tk + 1 } :=
      I.turnedNew (ch := [e, it]) (fun b ob hbb qq => (sb.2 b (fun zz => hbb (by simp [zz]))).trans (hk b ob (fun zz => hbb (by simp [zz])) (fun zz => hbb (by simp [zz])) qq)) hfp0 (Nat.le_refl _) nw
    refine ⟨.ref s.heap.objs.size, _, IB, rfl, ⟨_, x, rfl, I.hok.fresh (Nat.le_refl _), rfl, fun ys hy => by rw [I.tuple_inj hy hsq]; exact hxx⟩, ⟨⟨v, ?_⟩, hst'.1.at fun o qq => (sb.2 it (Ne.symm hne)).trans qq, hne, hae⟩, fun b hbb => ?_⟩
    · have en1 : ((i + 1 : Nat) : Int) = (i : Int) + 1 := by omega
      rw [en1]; exact he'
    · have hbl' : b < s.heap.objs.size := by
        have eq' : b = e ∨ b = it := by simpa using hbb
        rcases eq' with zz | zz
        · rw [zz]; exact hel0
        · rw [zz]; exact hil0
      rw [upd_ne (Nat.ne_of_lt hbl')]
      exact (hfp0 b hbb).1
  done := by
    intro X hP hw hK hcc i pn s σ H E I hfp0 stt hg
    subst hP hw hK
    obtain ⟨⟨old0, hen⟩, hitr, hne, hae⟩ := stt
    obtain ⟨xs, hsq, hxx⟩ := hg
    obtain ⟨ws, rvl, p, hzz⟩ := I.tuple hsq
    obtain ⟨g0, g1, g2, g3, g4, g5⟩ := hfp0 it (by simp)
    have hl := rvl.length
    have hin : i = ws.toArray.size := by simp; omega
    subst hin
    have hh : X.A.in1.handled = none := I.ok.hd hcc
    exact wpAny_pyNext_enum_endD (Draws.tuple hh it a hai ws.toArray) hen ⟨hitr, (show s.heap.IsTuple a ws.toArray from p)⟩ fun h' eb => ⟨rfl, I.turned (t' := s.toks) (fun b o hbb qq => eb b o hbb qq) g0 g1 g3 g4 g5⟩
  self := fun A i s Q E stt h => let ⟨⟨_, hen⟩, _⟩ := stt; wpAny_pyIter_enum hen h
def itOf (K : PySem.W.Frag) : Src → List D → List V → Option It
  | .seq _, [.lst _], [.ref a] => some (Itl K a)
  | .seq _, [.tup _], [.ref a] => some (Itt K a)
  | .seq _, [.frl _], [.ref a] => some (Itl K a)
  | .rng lo n, [], [] => some (Itr lo n)
  | .enum _, [.lst _], [.ref a] => some (Ite K a)
  | .enum _, [.tup _], [.ref a] => some (IteT K a)
  | .zip _ _, [.lst _, .lst _], [.ref a, .ref b] => some (Itz K a b)
  | .zip _ _, [.tup _, .tup _], [.ref a, .ref b] => some (RZ.ItzT K a b)
  | _, _, _ => none
def SrcOk (K : PySem.W.Frag) (σ : Sg) (fr : Fr) (H : Hp) (F : Addr → Prop) : Src → List V → Prop
  | .seq r, [v] => RfOk K σ fr H F v r
  | .enum r, [v] => RfOk K σ fr H F v r
  | .rng _ _, [] => True
  | .zip a b, [v, w] => RfOk K σ fr H F v a ∧ RfOk K σ fr H F w b
  | _, _ => False
/-- what an iterator does at turn i -/
structure ItAt (K : PySem.W.Frag) (src : Src) (J : It) (i : Nat) (H : Hp) (F : Addr → Prop) (xs : List D) : Prop where
  go : i < xs.length → J.go i H
  stop : xs.length = i → J.stop i H
  yld : ∀ x H', J.yld i H x H' → i < xs.length → ∃ d, xs[i]? = some d ∧ ((H' = H ∧ Rep K H F x d) ∨ srcPr src = true ∧ ∃ T y z dy dz, x = .ref T ∧ H T = none ∧ H' = upd H T (.tup [y, z]) ∧ d = .tup [dy, dz] ∧ Rep K H F y dy ∧ Rep K H F z dz)
section
variable {K : PySem.W.Frag} {H : Hp} {F : Addr → Prop}
theorem itl_at {r' : Rf} {a : Addr} {ws : List V} {ds : List D} (h : SqL K H a ws) (r : RepL K H F ws ds) (i : Nat) : ItAt K (.seq r') (Itl K a) i H F ds := by
  have hl := r.length
  refine ⟨fun hi => ⟨ws, ws[i]'(by omega), h, by simp⟩, fun hi => ⟨ws, h, by omega⟩, fun x H' y hi => ?_⟩
  obtain ⟨rfl, y⟩ := y
  obtain ⟨d, e1, e2⟩ := r.get (y ws h)
  exact ⟨d, e1, .inl ⟨rfl, e2⟩⟩
theorem itt_at {r' : Rf} {a : Addr} {ws : List V} {ds : List D} (h : SqT K H a ws) (r : RepL K H F ws ds) (i : Nat) : ItAt K (.seq r') (Itt K a) i H F ds := by
  have hl := r.length
  refine ⟨fun hi => ⟨ws, ws[i]'(by omega), h, by simp⟩, fun hi => ⟨ws, h, by omega⟩, fun x H' y hi => ?_⟩
  obtain ⟨rfl, y⟩ := y
  obtain ⟨d, e1, e2⟩ := r.get (y ws h)
  exact ⟨d, e1, .inl ⟨rfl, e2⟩⟩
theorem enumD_get : ∀ {xs : List D} {k i : Nat}, (enumD k xs)[i]? = (xs[i]?).map fun x => .tup [.int ((k + i : Nat) : Int), x]
  | [], _, _ => by simp [enumD]
  | x :: xs, k, 0 => by simp [enumD]
  | x :: xs, k, i + 1 => by
    simp only [enumD, List.getElem?_cons_succ]
    rw [enumD_get, show k + 1 + i = k + (i + 1) by omega]
theorem enumD_len : ∀ {xs : List D} {k : Nat}, (enumD k xs).length = xs.length
  | [], _ => rfl
  | x :: xs, k => by simp [enumD, enumD_len (xs := xs)]
theorem zipD_get : ∀ {xs ys : List D} {i : Nat}, (zipD xs ys)[i]? = match xs[i]?, ys[i]? with | some x, some y => some (.tup [x, y]) | _, _ => none
  | [], _, i => by simp [zipD]
  | x :: xs, [], i => by
    simp only [zipD]
    cases (x :: xs)[i]? <;> simp
  | x :: xs, y :: ys, 0 => by simp [zipD]
  | x :: xs, y :: ys, i + 1 => by
    simp only [zipD, List.getElem?_cons_succ]
    exact zipD_get
theorem zipD_len : ∀ {xs ys : List D}, (zipD xs ys).length = min xs.length ys.length
  | [], _ => by simp [zipD]
  | x :: xs, [] => by simp [zipD]
  | x :: xs, y :: ys => by
    simp only [zipD, List.length_cons, zipD_len (xs := xs)]
    omega
theorem ite_at {r' : Rf} {a : Addr} {ws : List V} {ds : List D} (h : SqL K H a ws) (r : RepL K H F ws ds) (i : Nat) : ItAt K (.enum r') (Ite K a) i H F (enumD 0 ds) := by
  have hl := r.length
  have he := enumD_len (xs := ds) (k := 0)
  refine ⟨fun hi => ⟨ws, ws[i]'(by omega), h, by simp⟩, fun hi => ⟨ws, h, by omega⟩, fun x H' y hi => ?_⟩
  obtain ⟨T, z, e1, e2, e3, y⟩ := y
  obtain ⟨d, f1, f2⟩ := r.get (y ws h)
  refine ⟨.tup [.int ((0 + i : Nat) : Int), d], by rw [enumD_get, f1]; rfl, .inr ⟨rfl, T, _, _, _, _, e1, e2, e3, rfl, ?_, f2⟩⟩
  rw [Nat.zero_add]
  exact .int _
theorem iteT_at {r' : Rf} {a : Addr} {ws : List V} {ds : List D} (h : SqT K H a ws) (r : RepL K H F ws ds) (i : Nat) : ItAt K (.enum r') (IteT K a) i H F (enumD 0 ds) := by
  have hl := r.length
  have he := enumD_len (xs := ds) (k := 0)
  refine ⟨fun hi => ⟨ws, ws[i]'(by omega), h, by simp⟩, fun hi => ⟨ws, h, by omega⟩, fun x H' y hi => ?_⟩
  obtain ⟨T, z, e1, e2, e3, y⟩ := y
  obtain ⟨d, f1, f2⟩ := r.get (y ws h)
  refine ⟨.tup [.int ((0 + i : Nat) : Int), d], by rw [enumD_get, f1]; rfl, .inr ⟨rfl, T, _, _, _, _, e1, e2, e3, rfl, ?_, f2⟩⟩
  rw [Nat.zero_add]
  exact .int _
theorem itz_at {r' r3 : Rf} {a b : Addr} {ws us : List V} {ds es : List D} (h : SqL K H a ws) (h2 : SqL K H b us) (r : RepL K H F ws ds) (r2 : RepL K H F us es) (i : Nat) : ItAt K (.zip r' r3) (Itz K a b) i H F (zipD ds es) := by
  have hl := r.length
  have hl2 := r2.length
  have hz := zipD_len (xs := ds) (ys := es)
  refine ⟨fun hi => ⟨ws, us, ws[i]'(by omega), us[i]'(by omega), h, h2, by simp, by simp⟩, fun hi => ⟨ws, us, h, h2, by omega⟩, fun x H' y hi => ?_⟩
  obtain ⟨T, z, w, e1, e2, e3, y1, y2⟩ := y
  obtain ⟨d, f1, f2⟩ := r.get (y1 ws h)
  obtain ⟨e, g1, g2⟩ := r2.get (y2 us h2)
  exact ⟨.tup [d, e], by rw [zipD_get, f1, g1], .inr ⟨rfl, T, _, _, _, _, e1, e2, e3, rfl, f2, g2⟩⟩
theorem itzT_at {r' r3 : Rf} {a b : Addr} {ws us : List V} {ds es : List D} (h : SqT K H a ws) (h2 : SqT K H b us) (r : RepL K H F ws ds) (r2 : RepL K H F us es) (i : Nat) : ItAt K (.zip r' r3) (RZ.ItzT K a b) i H F (zipD ds es) := by
  have hl := r.length
  have hl2 := r2.length
  have hz := zipD_len (xs := ds) (ys := es)
  refine ⟨fun hi => ⟨ws, us, ws[i]'(by omega), us[i]'(by omega), h, h2, by simp, by simp⟩, fun hi => ⟨ws, us, h, h2, by omega⟩, fun x H' y hi => ?_⟩
  obtain ⟨T, z, w, e1, e2, e3, y1, y2⟩ := y
  obtain ⟨d, f1, f2⟩ := r.get (y1 ws h)
  obtain ⟨e, g1, g2⟩ := r2.get (y2 us h2)
  exact ⟨.tup [d, e], by rw [zipD_get, f1, g1], .inr ⟨rfl, T, _, _, _, _, e1, e2, e3, rfl, f2, g2⟩⟩
theorem itr_at {lo : Int} {n i : Nat} : ItAt K (.rng lo n) (Itr lo n) i H F (rngD lo n) := by
  have hl : (rngD lo n).length = n := by simp [rngD]
  refine ⟨fun hi => by rw [hl] at hi; exact hi, fun hi => by rw [hl] at hi; exact Nat.le_of_eq hi, fun x H' y hi => ?_⟩
  obtain ⟨rfl, rfl⟩ := y
  rw [hl] at hi
  exact ⟨.int (lo + (i : Nat)), by simp [rngD, hi], .inl ⟨rfl, .int _⟩⟩
theorem it_at {σ : Sg} {fr : Fr} {src : Src} {vs : List V} {sv xs : List D} {J : It} (ok : FrOk K H F σ fr) (so : SrcOk K σ fr H F src vs) (hs : srcDs fr src = some sv) (hi : itemsOf src sv = some xs) (hj : itOf K src sv vs = some J) (i : Nat) : ItAt K src J i H F xs := by
  cases src with
  | seq r =>
    match vs, so with
    | [v], so =>
      cases e : deref fr r with
      | none => simp [srcDs, e] at hs
      | some d =>
        simp only [srcDs, e, Option.map_some, Option.some.injEq] at hs
        subst hs
        have hn := RfOk.now ok so e
        cases d with
        | lst ds =>
          obtain ⟨a, ws, rfl, h, r1⟩ := hn.lst
          cases hi; cases hj
          exact itl_at (.of h) r1 i
        | tup ds =>
          obtain ⟨a, ws, rfl, h, r1⟩ := hn.tup
          cases hi; cases hj
          exact itt_at h r1 i
        | frl ds =>
          obtain ⟨a, ws, rfl, h, r1⟩ := hn.frl
          cases hi; cases hj
          exact itl_at h r1 i
        | _ => cases hi
  | rng lo n =>
    cases hs
    match vs, so with
    | [], _ =>
      cases hi; cases hj
      exact itr_at
  | enum r =>
    match vs, so with
    | [v], so =>
      cases e : deref fr r with
      | none => simp [srcDs, e] at hs
      | some d =>
        simp only [srcDs, e, Option.map_some, Option.some.injEq] at hs
        subst hs
        have hn := RfOk.now ok so e
        cases d with
        | lst ds =>
          obtain ⟨a, ws, rfl, h, r1⟩ := hn.lst
          cases hi; cases hj
          exact ite_at (.of h) r1 i
        | tup ds =>
          obtain ⟨a, ws, rfl, h, r1⟩ := hn.tup
          cases hi; cases hj
          exact iteT_at h r1 i
        | _ => cases hi
  | zip a b =>
    match vs, so with
    | [v, w], so =>
      cases e : deref fr a with
      | none => simp [srcDs, e] at hs
      | some d =>
        cases e2 : deref fr b with
        | none => simp [srcDs, e, e2] at hs
        | some d2 =>
          simp only [srcDs, e, e2, Option.map_some, Option.bind_some, Option.some.injEq] at hs
          subst hs
          have hn := RfOk.now ok so.1 e
          have hn2 := RfOk.now ok so.2 e2
          cases d with
          | lst ds =>
            cases d2 with
            | lst es =>
              obtain ⟨p, ws, rfl, h, r1⟩ := hn.lst
              obtain ⟨q, us, rfl, h2, r2⟩ := hn2.lst
              cases hi; cases hj
              exact itz_at (.of h) (.of h2) r1 r2 i
            | _ => cases hi
          | tup ds =>
            cases d2 with
            | tup es =>
              obtain ⟨p, ws, rfl, h, r1⟩ := hn.tup
              obtain ⟨q, us, rfl, h2, r2⟩ := hn2.tup
              cases hi; cases hj
              exact itzT_at h h2 r1 r2 i
            | _ => cases hi
          | _ => cases hi
end
def SrcNew (H : Hp) : Src → List V → Prop
  | .seq r, [v] => RfNew H v r
  | .enum r, [v] => RfNew H v r
  | _, _ => True
def semI (X : Cx) (w : Fr → (Src → Fr → Prop) → Prop) : TI := fun σ H R => ∃ (fr : Fr) (F : Addr → Prop) (RR : Src → Fr → Prop), FrOk X.K H F σ fr ∧ w fr RR ∧
  (∀ src fr1, RR src fr1 → ∃ sv xs, srcDs fr1 src = some sv ∧ itemsOf src sv = some xs) ∧
  ∀ src fr1 vs H1 F1 sv J, RR src fr1 → Stp X.K σ fr F H fr1 F1 H1 → SrcOk X.K σ fr1 H1 F1 src vs → SrcNew H src vs → srcDs fr1 src = some sv → itOf X.K src sv vs = some J → R J H1
section
variable {C : WC} {X : Cx} {c : Ctx}
theorem pi_imp {tg e : Expr} {t t' : TI} (h : PI X tg e t) (i : ∀ σ H R, t' σ H R → t σ H R) : PI X tg e t' := ⟨fun pins s σ H R I q => h.run pins s σ H R I (i σ H R q)⟩
theorem seqI_sound {a : CX} {tg e : Expr} (h : PE X e (semE X (wE C a))) : PI X tg e (semI X (wI C (.seq a))) := by
  refine pi_imp (pi_seq h) fun σ H R q => ?_
  obtain ⟨fr, F, RR, h0, q, hx, k⟩ := q
  refine sem1 h0 q fun r fr1 v H1 F1 hR s o n => ?_
  obtain ⟨sv, xs, e1, e2⟩ := hx _ _ hR
  cases e3 : deref fr1 r with
  | none => simp [srcDs, e3] at e1
  | some d =>
    have es : srcDs fr1 (.seq r) = some [d] := by simp [srcDs, e3]
    rw [es] at e1
    cases e1
    have hn := o.now s.ok e3
    cases d with
    | lst ds =>
      obtain ⟨a, ws, rfl, h, r1⟩ := hn.lst
      exact ⟨a, rfl, .inl ⟨⟨ws, .of h⟩, k _ fr1 [.ref a] H1 F1 _ _ hR s o n es rfl⟩⟩
    | tup ds =>
      obtain ⟨a, ws, rfl, h, r1⟩ := hn.tup
      exact ⟨a, rfl, .inr ⟨⟨ws, h⟩, k _ fr1 [.ref a] H1 F1 _ _ hR s o n es rfl⟩⟩
    | frl ds =>
      obtain ⟨a, ws, rfl, h, r1⟩ := hn.frl
      exact ⟨a, rfl, .inl ⟨⟨ws, h⟩, k _ fr1 [.ref a] H1 F1 _ _ hR s o n es rfl⟩⟩
    | _ => cases e2
theorem rng1_sound (ok : CtxOk C X c) {a : CX} {tg l : Expr} {p pos : Pos} (hb : bltName c "range" = true) (hs : noStar l = true) (h : PE X l (semE X (wE C a))) : PI X tg (.Call (.Name "range" p) [l] [] pos) (semI X (wI C (.rng1 a))) := by
  obtain ⟨hm, hg, hp⟩ := ok.blt hb
  refine pi_imp (pi_range1 hg hm (pa_cons h pa_nil (star_of hs)) (by rw [star_of hs]; rfl)) fun σ H R q => ?_
  obtain ⟨fr, F, RR, h0, q, hx, k⟩ := q
  refine sem1 h0 q fun r fr1 v H1 F1 hR s o n => ?_
  cases e3 : deref fr1 r with
  | none => rw [e3] at hR; exact hR.elim
  | some d =>
    rw [e3] at hR
    cases d <;> first | exact hR.elim | skip
    rename_i j
    obtain ⟨⟨b1, b2⟩, hR⟩ := hR
    have ev := (o.now s.ok e3).int
    subst ev
    exact ⟨j, rfl, b1, b2, k _ fr1 [] H1 F1 _ _ hR s trivial trivial rfl rfl⟩
theorem rng2_sound (ok : CtxOk C X c) {a b : CX} {tg l r : Expr} {p pos : Pos} (hb : bltName c "range" = true) (hs : noStar l = true) (hs2 : noStar r = true) (h : PE X l (semE X (wE C a))) (h2 : PE X r (semE X (wE C b))) : PI X tg (.Call (.Name "range" p) [l, r] [] pos) (semI X (wI C (.rng2 a b))) := by
  obtain ⟨hm, hg, hp⟩ := ok.blt hb
  refine pi_imp (pi_range2 hg hm (pa_cons h (pa_cons h2 pa_nil (star_of hs2)) (star_of hs)) (by rw [star_of hs, star_of hs2]; rfl) (by rw [star_of hs2]; rfl)) fun σ H R q => ?_
  obtain ⟨fr, F, RR, h0, q, hx, k⟩ := q
  refine sem2 h0 q fun ra rb fr1 x y H1 F1 hR s ox oy => ?_
  cases e3 : deref fr1 ra with
  | none => rw [e3] at hR; exact hR.elim
  | some d =>
    cases e4 : deref fr1 rb with
    | none => rw [e3, e4] at hR; cases d <;> exact hR.elim
    | some d2 =>
      rw [e3, e4] at hR
      cases d <;> first | exact hR.elim | skip
      cases d2 <;> first | exact hR.elim | skip
      rename_i i j
      obtain ⟨b1, hR⟩ := hR
      exact ⟨i, j, by rw [(ox.now s.ok e3).int, (oy.now s.ok e4).int], b1, k _ fr1 [] H1 F1 _ _ hR s trivial trivial rfl rfl⟩
/-- a list or a tuple -/
def iEnA (K : PySem.W.Frag) (ta : TA) : TI := fun σ H R => ta σ H fun vs HB => ∃ a, vs = [.ref a] ∧ (((∃ xs, SqL K HB a xs) ∧ R (Ite K a) HB) ∨ ((∃ xs, SqT K HB a xs) ∧ R (IteT K a) HB))
theorem pi_enA {X : Cx} {e : Expr} {ta : TA} {p pos tpos : Pos} {elts : List Expr} {kk : Nat} (hg : Gl X "enumerate") (hm : X.mg "enumerate" = none) (ha : PA X [e] ta) (hs : starEach [e] X.env = [(false, eval e X.env)]) :
    PI X (.Tuple elts kk tpos) (.Call (.Name "enumerate" p) [e] [] pos) (iEnA X.K ta) := by
  refine ⟨fun pn s σ H R I h => ?_⟩
  refine PyProof.Rows.Call_ (ld_blt I hg hm PyProof.Rows.boot_enumerate (PyProof.Rows.callWith_type1 (thn (ha.run pos pn s σ H _ I h) fun us sB ⟨vs, HB, IB, rB, qB⟩ => ?_) hs rfl))
  obtain ⟨a, ex, qq⟩ := qB
  subst ex
  cases rB with
  | cons r rr =>
    cases rr
    cases r
    have hfp : ∀ b ∈ [sB.heap.objs.size + 1, sB.heap.objs.size], sB.heap.objs.size ≤ b := fun b hbb => by
      have eq' : b = sB.heap.objs.size + 1 ∨ b = sB.heap.objs.size := by simpa using hbb
      rcases eq' with zz | zz
      · rw [zz]; exact Nat.le_add_right _ _
      · rw [zz]; exact Nat.le_refl _
    rcases qq with ⟨⟨xs, hsq⟩, qq⟩ | ⟨⟨xs, hsq⟩, qq⟩
    · obtain ⟨ws, rvl, p', hzz⟩ := IB.list hsq
      refine call_enumerate_list p'.isList fun h' hen hitr hsz hk => wpAny_pyIter_enum hen ?_
      have IC : Inv X pn σ HB { sB with heap := h' } := IB.kept (t' := sB.toks) hk
      exact ⟨sB.heap.objs.size + 1, [sB.heap.objs.size + 1, sB.heap.objs.size], _, _, HB, rfl, IC, turn_enum a (sB.heap.objs.size + 1) sB.heap.objs.size, ⟨⟨.none, hen⟩, hitr, Nat.succ_ne_self _⟩, fun b hbb => IB.fpOk (hfp b hbb) (IB.hok.fresh (hfp b hbb)), qq⟩
    · obtain ⟨ws, rvl, p', hzz⟩ := IB.tuple hsq
      have hlt0 : a < sB.heap.objs.size := p'.lt
      refine call_enum_tuple (items := ws.toArray) (show sB.heap.IsTuple a ws.toArray from p') fun h' hen hitr hsz hk => wpAny_pyIter_enum hen ?_
      have IC : Inv X pn σ HB { sB with heap := h' } := IB.kept (t' := sB.toks) hk
      exact ⟨sB.heap.objs.size + 1, [sB.heap.objs.size + 1, sB.heap.objs.size], _, _, HB, rfl, IC, turn_enumT a (sB.heap.objs.size + 1) sB.heap.objs.size (Nat.ne_of_lt hlt0), ⟨⟨.none, hen⟩, hitr, Nat.succ_ne_self _, Nat.ne_of_lt (Nat.lt_succ_of_lt hlt0)⟩, fun b hbb => IB.fpOk (hfp b hbb) (IB.hok.fresh (hfp b hbb)), qq⟩
theorem enum_sound (ok : CtxOk C X c) {a : CX} {l : Expr} {es : List Expr} {n : Nat} {p pos tp : Pos} (hb : bltName c "enumerate" = true) (hs : noStar l = true) (h : PE X l (semE X (wE C a))) : PI X (.Tuple es n tp) (.Call (.Name "enumerate" p) [l] [] pos) (semI X (wI C (.enum a))) := by
  obtain ⟨hm, hg, hp⟩ := ok.blt hb
  refine pi_imp (pi_enA hg hm (pa_cons h pa_nil (star_of hs)) (by rw [star_of hs]; rfl)) fun σ H R q => ?_
  obtain ⟨fr, F, RR, h0, q, hx, k⟩ := q
  refine sem1 h0 q fun r fr1 v H1 F1 hR s o n => ?_
  obtain ⟨sv, xs, e1, e2⟩ := hx _ _ hR
  cases e3 : deref fr1 r with
  | none => simp [srcDs, e3] at e1
  | some d =>
    have es : srcDs fr1 (.enum r) = some [d] := by simp [srcDs, e3]
    rw [es] at e1
    cases e1
    have hn := o.now s.ok e3
    cases d with
    | lst ds =>
      obtain ⟨a, ws, rfl, h, r1⟩ := hn.lst
      exact ⟨a, rfl, .inl ⟨⟨ws, .of h⟩, k _ fr1 [.ref a] H1 F1 _ _ hR s o n es rfl⟩⟩
    | tup ds =>
      obtain ⟨a, ws, rfl, h, r1⟩ := hn.tup
      exact ⟨a, rfl, .inr ⟨⟨ws, h⟩, k _ fr1 [.ref a] H1 F1 _ _ hR s o n es rfl⟩⟩
    | _ => cases e2
theorem zip_sound (ok : CtxOk C X c) {a b : CX} {l r : Expr} {es : List Expr} {n : Nat} {p pos tp : Pos} (hb : bltName c "zip" = true) (hs : noStar l = true) (hs2 : noStar r = true) (h : PE X l (semE X (wE C a))) (h2 : PE X r (semE X (wE C b))) : PI X (.Tuple es n tp) (.Call (.Name "zip" p) [l, r] [] pos) (semI X (wI C (.zip a b))) := by
  obtain ⟨hm, hg, hp⟩ := ok.blt hb
  refine pi_imp (RZ.pi_zipA hg hm (pa_cons h (pa_cons h2 pa_nil (star_of hs2)) (star_of hs)) (star_of hs) (by rw [star_of hs2]; rfl)) fun σ H R q => ?_
  obtain ⟨fr, F, RR, h0, q, hx, k⟩ := q
  refine sem2 h0 q fun ra rb fr1 x y H1 F1 hR s ox oy => ?_
  obtain ⟨sv, xs, e1, e2⟩ := hx _ _ hR
  cases e3 : deref fr1 ra with
  | none => simp [srcDs, e3] at e1
  | some d =>
    cases e4 : deref fr1 rb with
    | none => simp [srcDs, e3, e4] at e1
    | some d2 =>
      have es : srcDs fr1 (.zip ra rb) = some [d, d2] := by simp [srcDs, e3, e4]
      rw [es] at e1
      cases e1
      have hn := ox.now s.ok e3
      have hn2 := oy.now s.ok e4
      cases d with
      | lst ds =>
        cases d2 with
        | lst es' =>
          obtain ⟨p, ws, rfl, h, r1⟩ := hn.lst
          obtain ⟨q, us, rfl, h2, r2⟩ := hn2.lst
          exact ⟨p, q, ws, us, rfl, .inl ⟨.of h, .of h2, k _ fr1 [.ref p, .ref q] H1 F1 _ _ hR s ⟨ox, oy⟩ trivial es rfl⟩⟩
        | _ => cases e2
      | tup ds =>
        cases d2 with
        | tup es' =>
          obtain ⟨p, ws, rfl, h, r1⟩ := hn.tup
          obtain ⟨q, us, rfl, h2, r2⟩ := hn2.tup
          exact ⟨p, q, ws, us, rfl, .inr ⟨h, h2, k _ fr1 [.ref p, .ref q] H1 F1 _ _ hR s ⟨ox, oy⟩ trivial es rfl⟩⟩
        | _ => cases e2
      | _ => cases e2
end
end QL
set_option maxHeartbeats 1200000
/-! QN: comprehensions -/
namespace QL
open PySem L2
theorem restF_out {old fr : Fr} {os : List Nat} {j : Nat} (h : j ∉ os) : (restF old fr os)[j]? = fr[j]? := by
  induction os with
  | nil => rfl
  | cons o os ih =>
    have h1 : o ≠ j := fun z => h (z ▸ List.mem_cons_self)
    show ((restF old fr os).set o _)[j]? = _
    rw [List.getElem?_set_ne h1]
    exact ih fun z => h (List.mem_cons_of_mem _ z)
theorem restF_len {old fr : Fr} {os : List Nat} : (restF old fr os).length = fr.length := by
  induction os with
  | nil => rfl
  | cons o os ih =>
    show ((restF old fr os).set o _).length = _
    rw [List.length_set]
    exact ih
theorem restF_in {old fr : Fr} {os : List Nat} {j : Nat} (hl : old.length = fr.length) (h : j ∈ os) : (restF old fr os)[j]? = old[j]? := by
  induction os with
  | nil => cases h
  | cons o os ih =>
    show ((restF old fr os).set o (old.getD o .none))[j]? = _
    by_cases ho : o = j
    · subst ho
      by_cases hl2 : o < (restF old fr os).length
      · rw [List.getElem?_set_self hl2]
        rw [restF_len, ← hl] at hl2
        rw [List.getD_eq_getElem?_getD, List.getElem?_eq_getElem hl2]
        rfl
      · rw [List.getElem?_eq_none (by rw [List.length_set]; omega)]
        rw [restF_len, ← hl] at hl2
        rw [List.getElem?_eq_none (h := by omega)]
    · rw [List.getElem?_set_ne ho]
      rcases List.mem_cons.1 h with z | z
      · exact absurd z.symm ho
      · exact ih z
/-- within a comprehension: from the state where it began -/
structure LcSt (K : PySem.W.Frag) (os : List Nat) (σ : Sg) (fr1 : Fr) (F1 : Addr → Prop) (H1 : Hp) (fr : Fr) (F : Addr → Prop) (H : Hp) : Prop where
  ok : FrOk K H F (wipe σ os) fr
  le : ∀ a, F1 a → F a
  new : ∀ a, F a → F1 a ∨ H1 a = none ∨ OwnF fr1 σ a
  keep : ∀ a, H1 a ≠ none → ¬ Own fr1 σ a → H a = H1 a
  alive : ∀ a, H1 a ≠ none → H a ≠ none
  sub : ∀ (j : Nat) (b : Bool) (d : D), fr[j]? = some (.own b d) → j ∉ os ∧ ∃ d0, fr1[j]? = some (.own b d0)
  bor : ∀ (j : Nat) (d : D), fr1[j]? = some (.own true d) → ∃ d', fr[j]? = some (.own true d')
  live : ∀ (j : Nat) (s : Sl), j ∉ os → fr1[j]? = some s → s ≠ .none → ∃ s', fr[j]? = some s' ∧ s' ≠ .none
section
variable {K : PySem.W.Frag} {os : List Nat} {σ : Sg} {fr1 fr : Fr} {F1 F : Addr → Prop} {H1 H : Hp} {D0 : Addr}
theorem LcSt.own (h : LcSt K os σ fr1 F1 H1 fr F H) {a : Addr} (o : Own fr (wipe σ os) a) : Own fr1 σ a := by
  obtain ⟨j, b, d, e1, e2⟩ := o
  obtain ⟨hj, d0, e3⟩ := h.sub j b d e1
  rw [wipe_out hj] at e2
  exact ⟨j, b, d0, e3, e2⟩
theorem LcSt.ownF (h : LcSt K os σ fr1 F1 H1 fr F H) {a : Addr} (o : OwnF fr (wipe σ os) a) : OwnF fr1 σ a := by
  obtain ⟨j, d, e1, e2⟩ := o
  obtain ⟨hj, d0, e3⟩ := h.sub j false d e1
  rw [wipe_out hj] at e2
  exact ⟨j, d0, e3, e2⟩
theorem LcSt.start (ok : FrOk K H1 F1 σ fr1) (ho : ∀ i ∈ os, isOwn fr1 i = false) {o : HO} (hD : H1 D0 = none) : LcSt K os σ fr1 F1 H1 (wipeF fr1 os) F1 (upd H1 D0 o) := by
  have notin : ∀ {j : Nat} {b : Bool} {d : D}, (wipeF fr1 os)[j]? = some (.own b d) → j ∉ os ∧ fr1[j]? = some (.own b d) := fun {j b d} e => by
    have hj : j ∉ os := fun z => by have := wipeF_in z e; cases this
    rw [wipeF_out hj] at e
    exact ⟨hj, e⟩
  have hF : ∀ a, F1 a → (upd H1 D0 o) a = H1 a := fun a f => upd_ne fun e => ok.fh a f (e ▸ hD)
  refine ⟨⟨fun a f => by rw [hF a f]; exact ok.fh a f, fun j d e => ?_, fun j b d e => ?_, fun j k a b c d e e1 e2 s1 s2 => ?_, by rw [wipeF_len, wipe_length]; exact ok.len⟩, fun _ z => z, fun _ z => .inl z, fun a z _ => upd_ne fun e => z (e ▸ hD),
    fun a z => by rw [upd_ne (show a ≠ D0 from fun e => z (e ▸ hD))]; exact z, fun j b d e => ⟨(notin e).1, d, (notin e).2⟩, fun j d e => ⟨d, ?_⟩, fun j s hj e n => ⟨s, by rw [wipeF_out hj]; exact e, n⟩⟩
  · have hj : j ∉ os := fun z => by have := wipeF_in z e; cases this
    rw [wipeF_out hj] at e
    rw [wipe_out hj]
    obtain ⟨v, e1, r⟩ := ok.val j d e
    exact ⟨v, e1, r.mono (fun _ z => z) hF⟩
  · obtain ⟨hj, e⟩ := notin e
    rw [wipe_out hj]
    obtain ⟨a, e1, nf, r⟩ := ok.own j b d e
    exact ⟨a, e1, nf, r.mono (fun _ z => z) hF (upd_ne fun z => r.some (z ▸ hD))⟩
  · obtain ⟨h1, f1⟩ := notin e1
    obtain ⟨h2, f2⟩ := notin e2
    rw [wipe_out h1] at s1
    rw [wipe_out h2] at s2
    exact ok.inj j k a b c d e f1 f2 s1 s2
  · have hj : j ∉ os := fun z => by
      have := ho j z
      unfold isOwn at this
      rw [e] at this
      cases this
    rw [wipeF_out hj]
    exact e
/-- the new list is written -/
theorem LcSt.updD (h : LcSt K os σ fr1 F1 H1 fr F H) (hb : FrOk K H1 F1 σ fr1) {o : HO} (hD : H1 D0 = none) (nF : ¬ F D0) : LcSt K os σ fr1 F1 H1 fr F (upd H D0 o) := by
  have hF : ∀ a, F a → (upd H D0 o) a = H a := fun a f => upd_ne fun e => nF (e ▸ f)
  have no : ¬ Own fr (wipe σ os) D0 := fun z => hb.there (h.own z) hD
  refine ⟨⟨fun a f => by rw [hF a f]; exact h.ok.fh a f, fun j d e => ?_, fun j b d e => ?_, h.ok.inj, h.ok.len⟩, h.le, h.new, fun a z n => ?_, fun a z => ?_, h.sub, h.bor, h.live⟩
  · obtain ⟨v, e1, r⟩ := h.ok.val j d e
    exact ⟨v, e1, r.mono (fun _ z => z) hF⟩
  · obtain ⟨a, e1, nf, r⟩ := h.ok.own j b d e
    exact ⟨a, e1, nf, r.mono (fun _ z => z) hF (upd_ne fun z => no ⟨j, b, d, e, z ▸ e1⟩)⟩
  · rw [upd_ne (show a ≠ D0 from fun e => z (e ▸ hD))]
    exact h.keep a z n
  · rw [upd_ne (show a ≠ D0 from fun e => z (e ▸ hD))]
    exact h.alive a z
/-- a turn -/
theorem LcSt.turn (h : LcSt K os σ fr1 F1 H1 fr F H) (hb : FrOk K H1 F1 σ fr1) (ho : ∀ i ∈ os, isOwn fr1 i = false) {F' F6 : Addr → Prop} {H' H6 : Hp} {σ2 : Sg} {fr3 fr6 : Fr} {is : List Nat} (le : ∀ a, F a → F' a) (new : ∀ a, F' a → F a ∨ H a = none) (keep : ∀ a, H a ≠ none → H' a = H a)
    (ok3 : FrOk K H' F' σ2 fr3) (as : Asg (wipe σ os) fr is σ2 fr3) (hi : ∀ i ∈ is, i ∈ os) (s : Stp K σ2 fr3 F' H' fr6 F6 H6) : LcSt K os σ fr1 F1 H1 (wipeF fr6 os) F6 H6 ∧ wipe σ2 os = wipe σ os ∧ (∀ a, Own fr3 σ2 a → Own fr1 σ a) := by
  have hw : wipe σ2 os = wipe σ os := by
    rw [← wipe_wipe (σ := σ)]
    exact wipe_eq as.len.1 fun j hj => (as.out j fun z => hj (hi j z)).1
  have own3 : ∀ {j : Nat} {b : Bool} {d : D}, fr3[j]? = some (.own b d) → j ∉ is ∧ fr[j]? = some (.own b d) := fun {j b d} e => by
    have hj : j ∉ is := fun z => by
      obtain ⟨d', e'⟩ := as.inn j z _ e
      cases e'
    exact ⟨hj, (as.out j hj).2 ▸ e⟩
  have o3 : ∀ {a : Addr}, Own fr3 σ2 a → Own fr1 σ a := fun {a} o => by
    obtain ⟨j, b, d, e1, e2⟩ := o
    obtain ⟨hj, e3⟩ := own3 e1
    rw [(as.out j hj).1] at e2
    exact h.own ⟨j, b, d, e3, e2⟩
  have oF3 : ∀ {a : Addr}, OwnF fr3 σ2 a → OwnF fr1 σ a := fun {a} o => by
    obtain ⟨j, d, e1, e2⟩ := o
    obtain ⟨hj, e3⟩ := own3 e1
    rw [(as.out j hj).1] at e2
    exact h.ownF ⟨j, d, e3, e2⟩
  have none1 : ∀ {a : Addr}, H a = none → H1 a = none := fun {a} z => by
    cases q : H1 a with
    | none => rfl
    | some o => exact absurd z (h.alive a (by rw [q]; simp))
  have al : ∀ a, H1 a ≠ none → H' a ≠ none := fun a z => by
    rw [keep a (h.alive a z)]
    exact h.alive a z
  have σout : ∀ {j : Nat}, j ∉ os → σ2[j]? = (wipe σ os)[j]? := fun {j} hj => (as.out j fun z => hj (hi j z)).1
  have own6 : ∀ {j : Nat} {b : Bool} {d : D}, (wipeF fr6 os)[j]? = some (.own b d) → j ∉ os ∧ fr6[j]? = some (.own b d) := fun {j b d} e => by
    have hj : j ∉ os := fun z => by have := wipeF_in z e; cases this
    rw [wipeF_out hj] at e
    exact ⟨hj, e⟩
  refine ⟨⟨⟨s.ok.fh, fun j d e => ?_, fun j b d e => ?_, fun j k a b c d e e1 e2 s1 s2 => ?_, ?_⟩, fun a z => s.le a (le a (h.le a z)), fun a z => ?_, fun a z n => ?_, fun a z => s.alive a (al a z), fun j b d e => ?_, fun j d e => ?_, fun j t hj e n => ?_⟩, hw, fun a => o3⟩
  · have hj : j ∉ os := fun z => by have := wipeF_in z e; cases this
    rw [wipeF_out hj] at e
    obtain ⟨v, e1, r⟩ := s.ok.val j d e
    exact ⟨v, by rw [← σout hj]; exact e1, r⟩
  · obtain ⟨hj, e⟩ := own6 e
    obtain ⟨a, e1, nf, r⟩ := s.ok.own j b d e
    exact ⟨a, by rw [← σout hj]; exact e1, nf, r⟩
  · obtain ⟨h1, f1⟩ := own6 e1
    obtain ⟨h2, f2⟩ := own6 e2
    rw [← σout h1] at s1
    rw [← σout h2] at s2
    exact s.ok.inj j k a b c d e f1 f2 s1 s2
  · rw [wipeF_len, wipe_length, s.ok.len, as.len.1, wipe_length]
  · rcases s.new a z with z | z | z
    · rcases new a z with z | z
      · exact h.new a z
      · exact .inr (.inl (none1 z))
    · refine .inr (.inl ?_)
      cases q : H1 a with
      | none => rfl
      | some o => exact absurd z (al a (by rw [q]; simp))
    · exact .inr (.inr (oF3 z))
  · rw [s.keep a (al a z) fun o => n (o3 o), keep a (h.alive a z), h.keep a z n]
  · obtain ⟨hj, e⟩ := own6 e
    obtain ⟨d1, e1⟩ := s.sub j b d e
    obtain ⟨_, e2⟩ := own3 e1
    obtain ⟨_, d0, e3⟩ := h.sub j b d1 e2
    exact ⟨hj, d0, e3⟩
  · have hj : j ∉ os := fun z => by
      have := ho j z
      unfold isOwn at this
      rw [e] at this
      cases this
    obtain ⟨d1, e1⟩ := h.bor j d e
    have hji : j ∉ is := fun z => hj (hi j z)
    rw [← (as.out j hji).2] at e1
    obtain ⟨d2, e2⟩ := s.bor j d1 e1
    exact ⟨d2, by rw [wipeF_out hj]; exact e2⟩
  · obtain ⟨t1, e1, n1⟩ := h.live j t hj e n
    have hji : j ∉ is := fun z => hj (hi j z)
    rw [← (as.out j hji).2] at e1
    obtain ⟨t2, e2, n2⟩ := s.live j t1 e1 n1
    exact ⟨t2, by rw [wipeF_out hj]; exact e2, n2⟩
/-- the end -/
theorem LcSt.back (h : LcSt K os σ fr1 F1 H1 fr F H) (hb : FrOk K H1 F1 σ fr1) (ho : ∀ i ∈ os, isOwn fr1 i = false) : Stp K σ fr1 F1 H1 (restF fr1 fr os) F H := by
  have hF : ∀ a, F1 a → H a = H1 a := fun a f => h.keep a (hb.fh a f) fun o => hb.nf o f
  have hl : fr1.length = fr.length := by rw [hb.len, h.ok.len, wipe_length]
  have nown : ∀ {j : Nat} {b : Bool} {d : D}, j ∈ os → fr1[j]? ≠ some (.own b d) := fun {j b d} hj e => by
    have := ho j hj
    unfold isOwn at this
    rw [e] at this
    cases this
  have ownR : ∀ {j : Nat} {b : Bool} {d : D}, (restF fr1 fr os)[j]? = some (.own b d) → j ∉ os ∧ fr[j]? = some (.own b d) := fun {j b d} e => by
    by_cases hj : j ∈ os
    · rw [restF_in hl hj] at e
      exact absurd e (nown hj)
    · rw [restF_out hj] at e
      exact ⟨hj, e⟩
  refine ⟨⟨h.ok.fh, fun j d e => ?_, fun j b d e => ?_, fun j k a b c d e e1 e2 s1 s2 => ?_, by rw [restF_len, ← hl]; exact hb.len⟩, h.le, h.new, h.keep, h.alive, fun j b d e => (h.sub j b d (ownR e).2).2, fun j d e => ?_, fun j t e n => ?_⟩
  · by_cases hj : j ∈ os
    · rw [restF_in hl hj] at e
      obtain ⟨v, e1, r⟩ := hb.val j d e
      exact ⟨v, e1, r.mono h.le hF⟩
    · rw [restF_out hj] at e
      obtain ⟨v, e1, r⟩ := h.ok.val j d e
      rw [wipe_out hj] at e1
      exact ⟨v, e1, r⟩
  · obtain ⟨hj, e⟩ := ownR e
    obtain ⟨a, e1, nf, r⟩ := h.ok.own j b d e
    rw [wipe_out hj] at e1
    exact ⟨a, e1, nf, r⟩
  · obtain ⟨h1, f1⟩ := ownR e1
    obtain ⟨h2, f2⟩ := ownR e2
    exact h.ok.inj j k a b c d e f1 f2 (by rw [wipe_out h1]; exact s1) (by rw [wipe_out h2]; exact s2)
  · have hj : j ∉ os := fun z => nown z e
    rw [restF_out hj]
    exact h.bor j d e
  · by_cases hj : j ∈ os
    · exact ⟨t, by rw [restF_in hl hj]; exact e, n⟩
    · rw [restF_out hj]
      exact h.live j t hj e n
theorem LcSt.rf (h : LcSt K os σ fr1 F1 H1 fr F H) (hb : FrOk K H1 F1 σ fr1) {v : V} {r : Rf} (x : RfOk K σ fr1 H1 F1 v r) (hn : ∀ i ∈ os, i ∉ rfBor r) : RfOk K (wipe σ os) fr H F v r := by
  have hF : ∀ a, F1 a → H a = H1 a := fun a f => h.keep a (hb.fh a f) fun o => hb.nf o f
  cases r with
  | val d => exact Rep.mono h.le hF x
  | tmp d =>
    obtain ⟨a, e, nf, no, ro⟩ := x
    refine ⟨a, e, fun z => ?_, fun o => no (h.own o), ro.mono h.le hF (h.keep a ro.some no)⟩
    rcases h.new a z with z | z | z
    · exact nf z
    · exact ro.some z
    · exact no z.own
  | bor i =>
    obtain ⟨e, s, e1, n⟩ := x
    have hi : i ∉ os := fun z => hn i z (by simp [rfBor])
    exact ⟨by rw [wipe_out hi]; exact e, h.live i s hi e1 n⟩
theorem LcSt.src (h : LcSt K os σ fr1 F1 H1 fr F H) (hb : FrOk K H1 F1 σ fr1) {src : Src} {vs : List V} (x : SrcOk K σ fr1 H1 F1 src vs) (hn : ∀ i ∈ os, i ∉ srcBors src) : SrcOk K (wipe σ os) fr H F src vs := by
  cases src with
  | seq r =>
    match vs, x with
    | [v], x => exact h.rf hb x hn
  | enum r =>
    match vs, x with
    | [v], x => exact h.rf hb x hn
  | rng lo n =>
    match vs, x with
    | [], _ => trivial
  | zip a b =>
    match vs, x with
    | [v, w], x => exact ⟨h.rf hb x.1 fun i hi z => hn i hi (by simp [srcBors, z]), h.rf hb x.2 fun i hi z => hn i hi (by simp [srcBors, z])⟩
end
theorem itOf_some {K : PySem.W.Frag} {σ : Sg} {fr : Fr} {H : Hp} {F : Addr → Prop} {src : Src} {vs : List V} {sv xs : List D} (ok : FrOk K H F σ fr) (so : SrcOk K σ fr H F src vs) (hs : srcDs fr src = some sv) (hi : itemsOf src sv = some xs) : True := trivial
section
variable {C : WC} {X : Cx}
abbrev lcT (C : WC) (t : CT) (co : CO) (e : CX) : D → Fr → (Option D → Fr → Prop) → Prop := fun x fr2 K => ∃ fr3, asgT fr2 t x = some fr3 ∧ wO C co fr3 fun b fr4 => if b = true then wE C e fr4 fun r fr5 => match frz fr5 r with
    | some (d, fr6) => K (some d) fr6
    | none => False
  else K none fr4
theorem lc_imp {os : List Nat} {t : CT} {it : CI} {co : CO} {e : CX} (hct : ctIn os t = true) (σ : Sg) (H : Hp) (Q : VK) (h : semE X (wE C (.lc os t it co e)) σ H Q) :
    tLc (semI X (wI C it)) (gOf X.K t) (semT X (wO C co)) (semE X (wE C e)) os σ H Q := by
  obtain ⟨fr, F, R, h0, q, k⟩ := h
  have hct' : ∀ i ∈ ctSlots t, i ∈ os := by
    intro i hi
    cases t with
    | n j =>
      have : i = j := by simpa [ctSlots] using hi
      subst this
      simpa [ctIn] using hct
    | t is =>
      have hct : is.all os.contains = true := hct
      simp only [List.all_eq_true] at hct
      simpa using hct i hi
    | t2 j is =>
      obtain ⟨h1, h2⟩ := and_of (show (os.contains j && is.all os.contains) = true from hct)
      rcases List.mem_cons.1 hi with rfl | hi
      · simpa using h1
      · simp only [List.all_eq_true] at h2
        simpa using h2 i hi
  refine ⟨fr, F, _, h0, q, fun src fr1 hR => ?_, fun src fr1 vs H1 F1 sv' J hR s so _ es hj D0 hD => ?_⟩
  · obtain ⟨sv, xs, e1, e2, _⟩ := hR
    exact ⟨sv, xs, e1, (itemsT_of e2).1⟩
  · obtain ⟨sv, xs, e1, e2, ho, hz, go⟩ := hR
    rw [es] at e1
    cases e1
    have ho' : ∀ i ∈ os, isOwn fr1 i = false := fun i hi => (ho i hi).1
    have hn : ∀ i ∈ os, i ∉ srcBors src := fun i hi => (ho i hi).2.2
    refine ⟨fun i m H => ∃ (fr' : Fr) (F' : Addr → Prop) (acc : List V) (accD : List D), LcSt X.K os σ fr1 F1 H1 fr' F' H ∧ H D0 = some (.lst acc) ∧ ¬ F' D0 ∧ RepL X.K H F' acc accD ∧ accD.length ≤ i ∧ i ≤ xs.length ∧ m = xs.length - i ∧ lcGo src sv' os (lcT C t co e) (xs.drop i) accD fr' (fun acc fr' => R (.tmp (.lst acc)) (restF fr1 fr' os)),
      ⟨xs.length, wipeF fr1 os, F1, [], [], LcSt.start s.ok ho' hD, upd_same, fun f => s.ok.fh D0 f hD, .nil, Nat.le_refl _, Nat.zero_le _, by simp, go⟩, ?_⟩
    rintro i m H2 ⟨fr', F', acc, accD, L, hd, nF, ra, la, li, rfl, g⟩
    have noD : ∀ {a : Addr}, Own fr1 σ a → a ≠ D0 := fun {a} o z => s.ok.there o (z ▸ hD)
    have srcN := L.src s.ok so hn
    by_cases hlt : i < xs.length
    · have ed : xs.drop i = xs[i] :: xs.drop (i + 1) := List.drop_eq_getElem_cons hlt
      rw [ed] at g
      obtain ⟨g1, g2⟩ := g
      have IA := it_at L.ok srcN g1 (itemsT_of e2).1 hj i
      refine .inr ⟨IA.go hlt, fun H' => ∃ (fr' : Fr) (F' : Addr → Prop) (acc : List V) (accD : List D), LcSt X.K os σ fr1 F1 H1 fr' F' H' ∧ H' D0 = some (.lst acc) ∧ ¬ F' D0 ∧ RepL X.K H' F' acc accD ∧ accD.length ≤ i + 1 ∧ lcGo src sv' os (lcT C t co e) (xs.drop (i + 1)) accD fr' (fun acc fr' => R (.tmp (.lst acc)) (restF fr1 fr' os)), ?_, fun x H3 hy => ?_⟩
      · rintro H' ⟨fr', F', acc, accD, a1, a2, a3, a4, a5, a6⟩
        exact ⟨xs.length - (i + 1), by omega, fr', F', acc, accD, a1, a2, a3, a4, a5, hlt, rfl, a6⟩
      · obtain ⟨d, ed, hx⟩ := IA.yld x H3 hy hlt
        have edx : xs[i] = d := by
          rw [List.getElem?_eq_getElem hlt] at ed
          exact Option.some.inj ed
        rw [edx] at g2
        -- the item is frozen
        obtain ⟨F3, ok3, le3, new3, keep3, rx, nF3⟩ : ∃ F3, FrOk X.K H3 F3 (wipe σ os) fr' ∧ (∀ a, F' a → F3 a) ∧ (∀ a, F3 a → F' a ∨ H2 a = none) ∧ (∀ a, H2 a ≠ none → H3 a = H2 a) ∧ ItRep X.K H3 F3 (srcPr src) x d ∧ ¬ F3 D0 := by
          rcases hx with ⟨rfl, rx⟩ | ⟨ep, T, y, z, dy, dz, rfl, hT, rfl, rfl, ry, rz⟩
          · exact ⟨F', L.ok, fun _ z => z, fun _ z => .inl z, fun _ _ => rfl, .rep rx, nF⟩
          · have st : Stp X.K (wipe σ os) fr' F' H2 fr' (fun a => F' a ∨ a = T) (upd H2 T (.tup [y, z])) := Stp.laidFz L.ok hT
            refine ⟨_, st.ok, st.le, fun a q => ?_, fun a q => upd_ne fun e => q (e ▸ hT), .pair ep upd_same (ry.mono st.le (st.fkeep L.ok)) (rz.mono st.le (st.fkeep L.ok)), fun q => ?_⟩
            · rcases q with q | rfl
              · exact .inl q
              · exact .inr hT
            · rcases q with q | q
              · exact nF q
              · rw [← q, hd] at hT; cases hT
        have hd3 : H3 D0 = some (.lst acc) := by rw [keep3 D0 (by rw [hd]; simp)]; exact hd
        have ra3 : RepL X.K H3 F3 acc accD := ra.mono le3 fun a f => keep3 a (L.ok.fh a f)
        obtain ⟨fr3, ea, g3⟩ := g2
        refine asg_it ok3 rx (itemsT_of e2).2 ea fun σ2 ok4 as => ?_
        refine ⟨(LcSt.turn L s.ok ho' le3 new3 keep3 ok4 as hct' (Stp.refl ok4)).2.1, ?_⟩
        have own3 := (LcSt.turn L s.ok ho' le3 new3 keep3 ok4 as hct' (Stp.refl ok4)).2.2
        -- what the turn leaves of the list
        have stay : ∀ {fr6 : Fr} {F6 : Addr → Prop} {H6 : Hp}, Stp X.K σ2 fr3 F3 H3 fr6 F6 H6 → H6 D0 = some (.lst acc) ∧ ¬ F6 D0 ∧ RepL X.K H6 F6 acc accD := fun {fr6 F6 H6} st => by
          have no : ¬ Own fr3 σ2 D0 := fun o => noD (own3 _ o) rfl
          refine ⟨by rw [st.keep D0 (by rw [hd3]; simp) no]; exact hd3, fun f => ?_, ra3.mono st.le (st.fkeep ok4)⟩
          rcases st.new D0 f with f | f | f
          · exact nF3 f
          · rw [hd3] at f; cases f
          · exact no f.own
        refine ⟨fr3, F3, _, ok4, g3, fun b fr4 H4 F4 hb s4 => ?_⟩
        cases b with
        | false =>
          simp only [Bool.false_eq_true, if_false] at hb ⊢
          obtain ⟨t1, t2, t3⟩ := stay s4
          exact ⟨_, F4, acc, accD, (LcSt.turn L s.ok ho' le3 new3 keep3 ok4 as hct' s4).1, t1, t2, t3, Nat.le_succ_of_le la, hb⟩
        | true =>
          simp only [if_true] at hb ⊢
          refine ⟨fr4, F4, _, s4.ok, hb, fun r fr5 y H5 F5 hr s5 o5 n5 => ?_⟩
          cases ef : frz fr5 r with
          | none => rw [ef] at hr; exact hr.elim
          | some p =>
            obtain ⟨dy, fr6⟩ := p
            rw [ef] at hr
            obtain ⟨F6, s6, ry⟩ := Stp.freeze ok4 (s4.trans ok4 s5) o5 (n5.back s4) ef
            obtain ⟨t1, t2, t3⟩ := stay s6
            have Lt := (LcSt.turn L s.ok ho' le3 new3 keep3 ok4 as hct' s6).1
            have hF6 : ∀ a, F6 a → (upd H5 D0 (.lst (acc ++ [y]))) a = H5 a := fun a f => upd_ne fun e => t2 (e ▸ f)
            refine ⟨acc, t1, ?_, _, F6, acc ++ [y], accD ++ [dy], Lt.updD s.ok hD t2, upd_same, t2, (t3.append (.cons ry .nil)).mono (fun _ z => z) hF6, by simp; exact la, hr⟩
            have := t3.length
            omega
    · have ei : i = xs.length := by omega
      subst ei
      rw [List.drop_length] at g
      obtain ⟨g1, g2⟩ := g
      have IA := it_at L.ok srcN g1 (itemsT_of e2).1 hj xs.length
      refine .inl ⟨IA.stop rfl, ?_⟩
      have sb := L.back s.ok ho'
      have st := s.trans h0 sb
      refine k _ _ _ _ _ g2 st ⟨D0, rfl, nF, fun o => noD (sb.subO o) rfl, acc, hd, ra⟩ fun a ea => ?_
      cases ea
      cases q : H D0 with
      | none => rfl
      | some o => exact absurd hD (s.alive D0 (by rw [q]; simp))
end
end QL
set_option maxHeartbeats 2200000
/-! QV: sets of texts -/
namespace QL
open PySem PySem.Spec PyProof.Rows L2 PySem.Froz
/-- a fresh set -/
abbrev frS (w : World) : Obj := { cls := .type "set", dict := none, data := .set #[] 0 (.fresh 0 0 (!w.params.followText "set-order")) }
/-- the set of the texts l stands at a -/
def TxS (P : Program) (w : World) (h : Heap) (a : Addr) (l : List Str) : Prop :=
  ∃ D : SD, h.get? a = some (sObj "set" D) ∧ TxOk P w D l ∧ l.Nodup ∧ Ris D.2.2.place.toList ∧ (w.params.followText "set-order" = true ∨ D.2.2.led = true)
section
variable {P : Program} {w : World} {A : Around} {E : Value → Shared → Prop} {s : Shared} {a : Addr} {l : List Str}
theorem TxS.at {h h' : Heap} (R : TxS P w h a l) (k : ∀ o, h.get? a = some o → h'.get? a = some o) : TxS P w h' a l := by
  obtain ⟨D, ho, r⟩ := R
  exact ⟨D, k _ ho, r⟩
theorem txS_fresh {h : Heap} (ho : h.get? a = some (frS w)) : TxS P w h a [] := by
  refine ⟨(#[], 0, .fresh 0 0 (!w.params.followText "set-order")), ho, .nil rfl, .nil, List.Pairwise.nil, ?_⟩
  show (_ ∨ (!w.params.followText "set-order") = true)
  cases w.params.followText "set-order" <;> simp
theorem tail_ris {ep : Nat} {es : Array (Int × Value)} {t2 : SetTable} {b : Bool} (r : Ris t2.place.toList) : Ris (tailTx ep es t2 b).2.2.place.toList := by
  unfold tailTx
  split
  · exact relayAll_ris ..
  · exact r
theorem tail_led {ep : Nat} {es : Array (Int × Value)} {t2 : SetTable} {b : Bool} : (tailTx ep es t2 b).2.2.led = t2.led := by
  unfold tailTx
  split
  · exact relayAll_led ..
  · rfl
theorem add_ris {D : SD} {h : Int} {v : Value} (r : Ris D.2.2.place.toList) : Ris (addTx h v D).2.2.place.toList := by
  have r1 := layNew_ris D.2.2 D.1 h v r
  unfold addTx
  refine tail_ris ?_
  split <;> exact r1
theorem add_led {D : SD} {h : Int} {v : Value} : (addTx h v D).2.2.led = D.2.2.led := by
  have r1 := layNew_led D.2.2 D.1 h v
  unfold addTx
  rw [tail_led]
  split <;> exact r1
/-- a text that is there already -/
theorem add_old {D : SD} {k : Str} {u : Tok} {Q : Bool → Shared → Prop} (ho : s.heap.get? a = some (sObj "set" D)) (F : TxOk P w D l) (hk : k ∈ l) (hb : l.length < scanBound) (h : Q false s) : wpAny (model P w) A (setAddHashed a (.str k u) (hashStr w k)) Q E s := by
  obtain ⟨es, ep, t⟩ := D
  obtain ⟨e, he, z⟩ := (F.mem k).mp hk
  have hlt : es.size < scanBound := by
    have : es.size = l.length := F.sz
    omega
  unfold setAddHashed; unfold setAddHashedIn
  refine wpAny_holding (wpAny_bind (wpAny_setState_of ho rfl F.fit ?_))
  dsimp only
  rw [byScan_of rfl hlt F.el]
  simp only [↓reduceIte]
  unfold setAddByScan
  refine wpAny_bind (wpAny_bind (wpAny_rule (wpAny_bind (wpAny_setScan_of (knd := strKind P w) (k := k) (is_str k u) ho rfl F.fit F.el ?_))))
  cases q : List.findIdx? (fun e => (strKind P w).is k e.2) es.toList with
  | some j => exact wpAny_pure (wpAny_pure h)
  | none =>
    have := List.findIdx?_eq_none_iff.mp q e he
    rw [z] at this
    cases this
/-- one more text -/
theorem txS_hashed {k : Str} {u : Tok} {Q : Bool → Shared → Prop} (R : TxS P w s.heap a l) (hb : l.length + 1 < scanBound)
    (hQ : ∀ (b : Bool) h', Heap.SameBut a s.heap h' → TxS P w h' a (if k ∈ l then l else k :: l) → Q b { s with heap := h' }) : wpAny (model P w) A (setAddHashed a (.str k u) (hashStr w k)) Q E s := by
  obtain ⟨D, ho, F, nd, r, hl⟩ := R
  by_cases hk : k ∈ l
  · refine add_old ho F hk (by omega) ?_
    have := hQ false s.heap (Heap.SameBut.refl a s.heap)
    rw [if_pos hk] at this
    exact this ⟨D, ho, F, nd, r, hl⟩
  · refine add_x ho F hk hb ?_
    have := hQ true (s.heap.update a (fun _ => sObj "set" (addTx (hashStr w k) (.str k u) D))) (Heap.SameBut.update s.heap a _)
    rw [if_neg hk] at this
    exact this ⟨_, get_upd _ ho rfl, add_ok u F, List.nodup_cons.mpr ⟨hk, nd⟩, add_ris r, hl.imp id fun z => by rw [add_led]; exact z⟩
theorem TxS.typeIs (R : TxS P w s.heap a l) : s.TypeIs (.ref a) "set" := by
  obtain ⟨D, ho, _⟩ := R
  exact ⟨_, ho, rfl⟩
theorem txS_add {k : Str} {u : Tok} {Q : Value → Shared → Prop} (R : TxS P w s.heap a l) (hb : l.length + 1 < scanBound)
    (hQ : ∀ h', Heap.SameBut a s.heap h' → TxS P w h' a (if k ∈ l then l else k :: l) → Q .none { s with heap := h', toks := s.toks + 1 }) : wpAny (model P w) A (call (.builtin "set.add") [.ref a, .str k u]) Q E s := by
  refine wpAny_call_entry F.slot_set_add R.typeIs F.entry_set_add ?_ (F.args_set_add_2 _ _)
  unfold Builtin.«set.add»; unfold Builtin.Frozenset.oneOther
  (simp only [List.isEmpty_nil, bind_assoc])
  unfold Builtin.Frozenset.addrOf; unfold setAdd
  refine (wpAny_bind (wpAny_pure ?_))
  try dsimp only
  refine (wpAny_bind (wpAny_pure ?_))
  try dsimp only
  refine wpAny_bind (wpAny_holding (wpAny_bind ((strKind P w).pyHash (is_str k u) ?_)))
  exact txS_hashed (s := { s with toks := s.toks + 1 }) R hb fun b h' sb r => wpAny_pure ⟨_, rfl, hQ h' sb r⟩
end
theorem perm_of_sub {α : Type} [DecidableEq α] : ∀ {l m : List α}, l.Nodup → (∀ x ∈ l, x ∈ m) → m.length ≤ l.length → l.Perm m
  | [], m, _, _, h => by
    have : m = [] := List.length_eq_zero_iff.mp (Nat.le_zero.mp h)
    rw [this]
  | a :: l, m, nd, hs, h => by
    obtain ⟨na, nl⟩ := List.nodup_cons.mp nd
    have ha := hs a List.mem_cons_self
    have p := List.perm_cons_erase ha
    refine (List.Perm.cons a (perm_of_sub (m := m.erase a) nl (fun x hx => ?_) ?_)).trans p.symm
    · have hx' := p.mem_iff.mp (hs x (List.mem_cons_of_mem _ hx))
      rcases List.mem_cons.1 hx' with z | z
      · exact absurd (z ▸ hx) na
      · exact z
    · have := p.length_eq
      (simp only [List.length_cons] at this h)
      omega
def txtOf : Value → Str
  | .str k _ => k
  | _ => Str.empty
section
variable {P : Program} {w : World} {A : Around} {E : Value → Shared → Prop} {s : Shared} {a : Addr} {l : List Str}
theorem strs_of : ∀ {vs : List Value}, (∀ v ∈ vs, ∃ k u, v = Value.str k u) → StrsAre vs (vs.map txtOf)
  | [], _ => .nil
  | v :: vs, h => by
    obtain ⟨k, u, rfl⟩ := h v List.mem_cons_self
    exact .cons k u (strs_of fun x hx => h x (List.mem_cons_of_mem _ hx))
theorem is_txt {k : Str} {v : Value} (h : (strKind P w).is k v = true) : ∃ u, v = .str k u := by
  have h : Value.isStrOf k v = true := h
  cases v with
  | str x u =>
    have : x = k := by simpa [Value.isStrOf] using h
    exact ⟨u, by rw [this]⟩
  | _ => simp [Value.isStrOf] at h
/-- sorted of a set of texts -/
theorem txS_sorted {Q : Value → Shared → Prop} (R : TxS P w s.heap a l) (hh : A.handled = none) (hb : l.length < scanBound)
    (hQ : ∀ (s' : Shared) (p : Addr) (out : Array Value) (c : Nat) (ys : List Str), (∀ b o, s.heap.get? b = some o → s'.heap.get? b = some o) → s'.gens = s.gens → s'.os = s.os → s.heap.objs.size ≤ p →
      s'.heap.get? p = some (seqObj "list" out c) → StrsAre out.toList ys → ys.Perm l → sortedS ys = true → Q (.ref p) s') : wpAny (model P w) A (call (.builtin "sorted") [.ref a]) Q E s := by
  obtain ⟨⟨es, ep, t⟩, ho, F, nd, hr, hl⟩ := R
  have hsz : es.size = l.length := (F.sz)
  refine (Calls.call_function_entry kind_sorted plain_sorted entry_sorted (args_sorted1 _) ?_)
  unfold Builtin.«sorted»
  refine (wpAny_bind (m := checkCount "sorted" 1 1 _) (wpAny_pure ?_))
  refine wpAny_bind (collect_set (A := A.in1) hh ⟨_, ho, rfl, rfl⟩ F.fit (by rw [hsz]; exact hb) hr hl fun s1 vs k1 hz g1 o1 pm => ?_)
  have each : ∀ e ∈ es.toList, ∃ k u, e.2 = Value.str k u := fun e he => by
    obtain ⟨⟨k, h1, _⟩, _⟩ := F.el e he
    obtain ⟨u, eu⟩ := is_txt h1
    exact ⟨k, u, eu⟩
  have hS : StrsAre vs (vs.map txtOf) := strs_of fun v hv => by
    obtain ⟨e, he, q⟩ := (List.mem_map.mp (pm.mem_iff.mp hv))
    obtain ⟨k, u, h1⟩ := each e he
    exact ⟨k, u, q.symm.trans h1⟩
  have lv : vs.length = l.length := by rw [pm.length_eq, List.length_map, Array.length_toList]; exact hsz
  have pl : l.Perm (vs.map txtOf) := perm_of_sub nd (fun k hk => by
    obtain ⟨e, he, z⟩ := (F.mem k).mp hk
    obtain ⟨u, eu⟩ := is_txt z
    refine List.mem_map.mpr ⟨e.2, pm.mem_iff.mpr (List.mem_map.mpr ⟨e, he, rfl⟩), by rw [eu]; rfl⟩) (by rw [List.length_map]; omega)
  have lz : vs.length ≤ sizeLine := by rw [lv, ← hsz]; exact fits_of_scanBound (by rw [hsz]; exact hb)
  refine wpAny_bind (wpAny_newList ?_ lz)
  have hoL : (s1.heap.push (seqObj "list" vs.toArray 0)).get? s1.heap.objs.size = some (seqObj "list" vs.toArray 0) := (Heap.get?_push_size _ rfl)
  refine wpAny_bind (wpAny_holding (wpAny_call_entry slot_list_sort ⟨_, hoL, rfl⟩ entry_list_sort (list_sort_treeKAny strKind_oneLt hoL hS.keysOf (fun v1 v2 rest e => keyKind_strs (by rw [← e]; exact hS)) lz fun st' hp hs => ?_) (args_list_sort _)))
  obtain ⟨ys, h1, h2, h3⟩ := sorted_out_str hS hp hs
  obtain ⟨c, hc⟩ := sortedHeap_at (vs := vs) (out := (arrOf st').map (·.2)) hoL
  refine ⟨_, rfl, wpAny_pure ⟨_, rfl, hQ _ s1.heap.objs.size _ c ys (fun b u e => ?_) g1 o1 hz hc h1 (h2.trans pl.symm) h3⟩⟩
  have q := k1 b u e
  have hlt := Heap.lt_size q
  show (sortedHeap (s1.heap.push (seqObj "list" vs.toArray 0)) s1.heap.objs.size vs _).get? b = some u
  (rw [sortedHeap_old (Nat.ne_of_lt hlt) (by rw [size_push']; exact Nat.lt_succ_of_lt hlt)])
  exact (Heap.get?_push_of_some _ q)
end
/-- the set of texts as a tracked thing -/
def TxO (P : Program) (w : World) (a : Addr) (l : List Str) : HO := .ext fun h => TxS P w h a l
section
variable {X : Cx}
theorem txO_new {P : Program} {w : World} {H : Hp} {h : Heap} {a : Addr} {l : List Str} (R : TxS P w h a l) : ObjOk P w H h a (TxO P w a l) := by
  have ⟨D, ho, _⟩ := R
  exact ⟨R, ⟨_, ho⟩, fun h1 h2 p k => TxS.at p k⟩
theorem txO_get {pins : List (Addr × Obj)} {σ : L2.St} {H : Hp} {s : Shared} {a : Addr} {l : List Str} (I : Inv X pins σ H s) (ha : H a = some (TxO X.prog X.w a l)) : TxS X.prog X.w s.heap a l := (I.hok a _ ha).1
/-- sorted of it -/
def rSrtTx (P : Program) (w : World) : List V → Hp → VK → Prop := fun vs H Q => ∃ (a : Addr) (l : List Str), vs = [.ref a] ∧ H a = some (TxO P w a l) ∧ l.length < scanBound ∧
  ∀ (ys : List Str) (p : Addr), ys.Perm l → sortedS ys = true → H p = none → Q (.ref p) (upd H p (.lst (ys.map V.str)))
theorem cr_srtTx (hc : X.calm = true) : CallR X (.builtin "sorted") (rSrtTx X.prog X.w) := by
  intro pins s σ H vs us Q I r hh
  obtain ⟨a, l, rfl, ha, hb, q⟩ := hh
  rw [Vals.ref1 r]
  refine txS_sorted (txO_get I ha) (I.ok.hd hc) hb fun s' p out c ys k g o hp hg hi hm hs => ?_
  have hlen : (ys.map V.str).length ≤ (sizeLine) := by
    rw [List.length_map, hm.length_eq]
    exact fits_of_scanBound hb
  have hn : H p = none := (I.hok.fresh hp)
  have J : Inv X pins σ (upd H p (.lst (ys.map V.str))) { s with heap := s'.heap, gens := s'.gens, drawn := s'.drawn, toks := s'.toks } :=
    I.call (ch := []) (Un.laid k hp hn) (I.hok.laid k hp ⟨hlen, out.toList, c, vals_of_strs hi, hg⟩) (by rw [g]; exact I.bare) (fun _ z => nomatch z)
  have es : s' = { s with heap := s'.heap, gens := s'.gens, drawn := s'.drawn, toks := s'.toks } := by
    cases s'; cases s; cases o; rfl
  rw [es]
  exact ⟨.ref p, _, J, rfl, q ys p hm hs hn⟩
/-- set.add of a text -/
theorem txO_add {pins : List (Addr × Obj)} {σ : L2.St} {H : Hp} {s : Shared} {E : Value → Shared → Prop} {D : Addr} {l : List Str} {k : Str} {u : Tok} {Q : Value → Shared → Prop} (I : Inv X pins σ H s) (hD : H D = some (TxO X.prog X.w D l)) (room : l.length + 1 < scanBound)
    (h : ∀ s', Inv X pins σ (upd H D (TxO X.prog X.w D (if k ∈ l then l else k :: l))) s' → Q .none s') : wpAny (model X.prog X.w) X.A (call (.builtin "set.add") [.ref D, .str k u]) Q E s := by
  refine txS_add (txO_get I hD) room fun h' sb new => ?_
  have ⟨_, ho, _⟩ := new
  exact h _ (I.write (e := D) (t' := s.toks + 1) (by rw [hD]; trivial) (.inl rfl) (fun b u hb hu => (sb.2 b hb).trans hu) ⟨_, ho⟩ (txO_new new))
end
end QL
set_option maxHeartbeats 2200000
/-! QW: {elt for target in iter if ..}, elt a text -/
namespace QL
open PySem PySem.Spec PyProof.Rows L2 PySem.Froz
section
variable {X : Cx}
/-- one turn's wish -/
abbrev stTurn (P : Program) (w : World) (g : TG) (tt : TT) (te : TE) (vs : List Nat) (σ : L2.St) (D : Addr) (Nx : Hp → Prop) (x : V) (H' : Hp) : Prop :=
  g x (wipe σ vs) H' fun σ2 H2 => wipe σ2 vs = wipe σ vs ∧ tt σ2 H2 fun b H3 => if b = true then te σ2 H3 fun y H4 => ∃ (k : Str) (l : List Str), y = .str k ∧ H4 D = some (TxO P w D l) ∧ l.length + 1 < scanBound ∧ Nx (upd H4 D (TxO P w D (if k ∈ l then l else k :: l))) else Nx H3
def tSt (P : Program) (w : World) (wi : TI) (g : TG) (tt : TT) (te : TE) (vs : List Nat) : TE := fun σ H Q => wi σ H fun J H1 => ∀ D, H1 D = none → ∃ W : Nat → Nat → Hp → Prop, (∃ m, W 0 m (upd H1 D (TxO P w D []))) ∧ ∀ i m H, W i m H →
  (J.stop i H ∧ Q (.ref D) H) ∨ (J.go i H ∧ ∃ Nx : Hp → Prop, (∀ H', Nx H' → ∃ m', m' < m ∧ W (i + 1) m' H') ∧ ∀ x H', J.yld i H x H' → stTurn P w g tt te vs σ D Nx x H')
theorem newSet_tx {pins : List (Addr × Obj)} {σ : L2.St} {H : Hp} {s : Shared} (I : Inv X pins σ H s) : Inv X pins σ (upd H s.heap.objs.size (TxO X.prog X.w s.heap.objs.size [])) { s with heap := s.heap.push (frS X.w) } :=
  I.laid (t' := s.toks) (fun _ _ e => Heap.get?_push_of_some _ e) (Nat.le_refl _) (txO_new (txS_fresh (Heap.get?_push_size _ rfl)))
theorem st_core {pins : List (Addr × Obj)} {s : Shared} {σ : L2.St} {H : Hp} {Q : VK} {elt tg iter : Expr} {ifs : List Expr} {scope : Scope} {own : List (Str × Nat)} {pos pos' : Pos} {wi : TI} {g : TG} {tt : TT} {te : TE} {use : Option (Value → Sem Unit)} {Qf : Value → Shared → Prop}
    (hcalm : X.calm = true) (hnd : X.N.Nodup) (I0 : Inv X pins σ H s) (hit : PI X tg iter wi) (bk : BlkOk X.N X.env.scope scope own)
    (hgt : ∀ (s : Shared) (H : Hp) (B : Addr) (cl : List (Str × Addr)) (fp : List Addr), PG (X.blk s H scope (compEnvC scope cl B X.env) fp) tg g)
    (htt : ∀ (s : Shared) (H : Hp) (B : Addr) (cl : List (Str × Addr)) (fp : List Addr), PTs (X.blk s H scope (compEnvC scope cl B X.env) fp) ifs tt)
    (hel : ∀ (s : Shared) (H : Hp) (B : Addr) (cl : List (Str × Addr)) (fp : List Addr), PE (X.blk s H scope (compEnvC scope cl B X.env) fp) elt te) (hfs : ∀ x, foldedSetIterable iter X.env x = pure x)
    (hw : tSt X.prog X.w wi g tt te (own.map (·.2)) σ H Q)
    (fin : ∀ D B s' m H', Inv X pins σ H' s' → Q (.ref D) H' → s'.heap.Ns B m → FpOk X pins H' B → compPost (model X.prog X.w) X.A X.xe use Qf (.ref D) B (.ok .next) s') :
    wpAny (model X.prog X.w) X.A (comprehension (.SetComp elt [⟨tg, iter, ifs, 0⟩] scope pos) scope X.env pos' (newSet (.type "set")) false (eval iter (X.env)) use) Qf X.xe s := by
  refine wpAny_comprehension_free (use := use) rfl hfs (closure_ok fun y hy e => (bk.free y hy e).elim (fun k => I0.ok.has _ (.inl k)) fun k => I0.ok.has _ (.inr k)) bk.kind (fun y hy e => by rw [bk.uniq y hy, e])
    (thn (hit.run pins s σ H _ I0 hw) fun xv sa hx => thn hx fun itv sb hb => ?_)
  obtain ⟨it, fp, tn, J, Hb, rfl, Ib, T, stb, fb, q⟩ := hb
  refine PpSet.newSet_ok (newEnv_comp ?_)
  have hDn : Hb sb.heap.objs.size = none := Ib.hok.fresh (Nat.le_refl _)
  obtain ⟨W, ⟨m0, w0⟩, turn⟩ := q _ hDn
  have Ic := newSet_tx (X := X) Ib
  have szb : ∀ b ∈ fp, b < sb.heap.objs.size := fun b hb => by
    obtain ⟨o, e, _⟩ := T.obj _ _ stb b hb
    exact Heap.lt_size e
  generalize hD : sb.heap.objs.size = D at hDn w0 turn Ic szb ⊢
  generalize hsc : ({ sb with heap := sb.heap.push (frS X.w) } : Shared) = sc at Ic ⊢
  have hpc : sc.heap = sb.heap.push (frS X.w) := by rw [← hsc]
  have fc : ∀ b ∈ fp, FpOk X pins (upd Hb D (TxO X.prog X.w D [])) b ∧ b < sc.heap.objs.size := fun b hb => by
    have hlt := szb b hb
    refine ⟨⟨?_, (fb b hb).2⟩, by rw [hpc, Heap.size_push]; exact Nat.lt_succ_of_lt (hD ▸ hlt)⟩
    (rw [upd_ne (Nat.ne_of_lt hlt)])
    exact (fb b hb).1
  have stc : tn 0 sc.heap := T.keep _ _ _ stb fun b _ o e => by rw [hpc]; exact Heap.get?_push_of_some _ e
  have Id := block_start Ic bk hnd fc
  have pg := hgt sc (upd Hb D (TxO X.prog X.w D [])) sc.heap.objs.size (cellsFrom (sc.heap.objs.size + 1) scope.names (cloFrom X.env.cells scope.names [])) fp
  have pt := htt sc (upd Hb D (TxO X.prog X.w D [])) sc.heap.objs.size (cellsFrom (sc.heap.objs.size + 1) scope.names (cloFrom X.env.cells scope.names [])) fp
  have pe := hel sc (upd Hb D (TxO X.prog X.w D [])) sc.heap.objs.size (cellsFrom (sc.heap.objs.size + 1) scope.names (cloFrom X.env.cells scope.names [])) fp
  have nfp : ∀ b ∈ fp, (upd Hb D (TxO X.prog X.w D [])) b = none := fun b hb => (fc b hb).1.1
  show codeAny _ _ (.compStart (.SetComp elt [⟨tg, iter, ifs, 0⟩] scope pos) 0 (.ref it) (.ref D) (compEnvC scope (cellsFrom (sc.heap.objs.size + 1) scope.names (cloFrom X.env.cells scope.names [])) sc.heap.objs.size X.env)) (compPost (model X.prog X.w) X.A X.xe use Qf (.ref D) sc.heap.objs.size)
    { sc with heap := pushCells (sc.heap.push { cls := .type "dict", data := .dict #[] }) scope.names }
  generalize hce : compEnvC scope (cellsFrom (sc.heap.objs.size + 1) scope.names (cloFrom X.env.cells scope.names [])) sc.heap.objs.size X.env = ce at Id pg pt pe ⊢
  have cL : ce.locals = sc.heap.objs.size := by rw [← hce]; rfl
  generalize hHc : upd Hb D (TxO X.prog X.w D []) = Hc at Ic Id pg pt pe w0 nfp fc
  generalize hsd : ({ sc with heap := pushCells (sc.heap.push { cls := .type "dict", data := .dict #[] }) scope.names } : Shared) = sd at Id ⊢
  have std : tn 0 sd.heap := T.keep _ _ _ stc fun b _ o e => by rw [← hsd]; exact pushCells_keeps _ _ _ _ (Heap.get?_push_of_some _ e)
  have stat : ∀ {σ' : L2.St} {H' : Hp} {s' : Shared}, Inv (X.blk sc Hc scope ce fp) [] σ' H' s' → (∀ b ∈ fp, H' b = none) → ∀ b ∈ fp, FpOk (X.blk sc Hc scope ce fp) [] H' b := fun {σ' H' s'} I' hn b hb =>
    ⟨hn b hb, (I'.ok.exf b hb).1, I'.ok.exfs b hb, .inl hb, fun x c e => (I'.ok.exf b hb).2 x c e, fun q hq => absurd (show q ∈ ([] : List (Addr × Obj)) ++ [] from hq) (by simp)⟩
  refine PpSet.codeAny_compStart_set (rest := []) ?loop (T.self X.A 0 _ _ _ std ?loop)
  refine PpSet.compLoopS_any (fun n s' => ∃ i H', Inv (X.blk sc Hc scope ce fp) [] (wipe σ (own.map (·.2))) H' s' ∧ tn i s'.heap ∧ (∀ b ∈ fp, H' b = none) ∧ W i n H') ?_ m0 ⟨0, Hc, Id, std, nfp, w0⟩
  (rintro n s5 ⟨i, H5, I5, st5, n5, w5⟩)
  rcases (turn i n H5 w5) with ⟨stop, qq⟩ | ⟨go, Nx, hNx, step⟩
  · refine thnF (T.done (X.blk sc Hc scope ce fp) rfl rfl rfl hcalm i [] s5 _ H5 (fun _ _ => False) I5 (stat I5 n5) st5 stop) fun r s6 ⟨er, I6⟩ => ?_
    cases er
    have I7 : Inv X pins σ H5 s6 := Ic.call' (ch := fp) I6.os I6.base I6.hok I6.bare fun b hb =>
      have z := (fc b hb).1.2
      ⟨z.2.2.1, z.1, z.2.2.2.1, z.2.2.2.2⟩
    obtain ⟨m, hn, _⟩ := I6.loc
    have hn : s6.heap.Ns ce.locals m := (hn)
    have nB : H5 ce.locals = none := I6.free
    rw [cL] at hn nB
    exact fin D sc.heap.objs.size s6 m H5 I7 qq hn (Ic.fpOk (Nat.le_refl _) nB)
  · refine thnF (T.item (X.blk sc Hc scope ce fp) rfl rfl rfl hcalm i [] s5 _ H5 (fun _ _ => False) I5 (stat I5 n5) st5 go) fun r s6 ⟨u, er, h6⟩ => ?_
    cases er
    refine (thnF h6 fun _ s7 ⟨x, H7, I7, r7, y7, st7, n7⟩ => ?_)
    refine thnF (pg.run _ s7 _ H7 x u _ (I7.pinned (stat I7 n7) (T.obj _ _ st7)) r7 (step x H7 y7)) fun _ s8 ⟨σ8, H8, I8, hw8, q8⟩ => ?_
    refine (thnF (pt.run _ s8 σ8 H8 _ I8 q8) fun b s9 ⟨H9, I9, q9⟩ => ?_)
    have close : ∀ {s' : Shared} {H' : Hp}, Inv (X.blk sc Hc scope ce fp) ([] ++ pinsAt fp s7.heap) σ8 H' s' → Nx H' →
        ∃ m, m < n ∧ ∃ i H', Inv (X.blk sc Hc scope ce fp) [] (wipe σ (own.map (·.2))) H' s' ∧ tn i s'.heap ∧ (∀ b ∈ fp, H' b = none) ∧ W i m H' := fun {s' H'} I' nx => by
      obtain ⟨m', hm, w'⟩ := (hNx H' nx)
      have pn : ∀ b ∈ fp, ∀ o, s7.heap.get? b = some o → s'.heap.get? b = some o ∧ H' b = none := fun b hb o e => by
        have z := I'.pin (b, o) (List.mem_append_right _ (List.mem_append_right _ (mem_pinsAt hb e)))
        exact ⟨z.1, z.2.1⟩
      have hl : (wipe σ (own.map (·.2))).length = σ8.length := by rw [← hw8]; exact wipe_length ..
      refine ⟨m', hm, i + 1, H', (I'.unpinned (pins := [])).weak hl (fun j v e => ?_), T.keep _ _ _ st7 fun b hb o e => (pn b hb o e).1, fun b hb => ?_, w'⟩
      · rw [← hw8] at e
        exact (wipe_some e).1
      · obtain ⟨o, e, _⟩ := (T.obj _ _ st7 b hb)
        exact (pn b hb o e).2
    cases b with
    | false => exact close I9 q9
    | true =>
      rw [if_pos rfl] at q9
      refine thnF (pe.run _ s9 σ8 H9 _ I9 q9) fun z s10 ⟨yv, H10, I10, r10, k, l, ey, hD10, hz10, nx⟩ => ?_
      subst ey
      obtain ⟨u, rfl⟩ : ∃ u, z = Value.str k u := r10
      exact txO_add (X := X.blk sc Hc scope ce fp) I10 hD10 hz10 fun s11 I11 => close I11 nx
end
end QL
set_option maxHeartbeats 3300000
/-! QX: set(a list of texts) -/
namespace QL
open PySem PySem.Spec PyProof.Rows L2 PySem.Froz
/-- the texts of xs put in one by one -/
def txAdd (l : List Str) : List Str → List Str
  | [] => l
  | k :: r => txAdd (if k ∈ l then l else k :: l) r
theorem txAdd_mem : ∀ {xs l : List Str} {k : Str}, k ∈ txAdd l xs ↔ k ∈ l ∨ k ∈ xs
  | [], l, k => by simp [txAdd]
  | x :: r, l, k => by
    unfold txAdd
    rw [txAdd_mem]
    by_cases h : x ∈ l
    · rw [if_pos h, List.mem_cons]
      constructor
      · rintro (z | z)
        · exact .inl z
        · exact .inr (.inr z)
      · rintro (z | rfl | z)
        · exact .inl z
        · exact .inl h
        · exact .inr z
    · rw [if_neg h, List.mem_cons, List.mem_cons]
      constructor
      · rintro ((z | z) | z)
        · exact .inr (.inl z)
        · exact .inl z
        · exact .inr (.inr z)
      · rintro (z | z | z)
        · exact .inl (.inr z)
        · exact .inl (.inl z)
        · exact .inr z
theorem txAdd_nodup : ∀ {xs l : List Str}, l.Nodup → (txAdd l xs).Nodup
  | [], l, h => h
  | x :: r, l, h => by
    unfold txAdd
    refine txAdd_nodup ?_
    by_cases z : x ∈ l
    · rw [if_pos z]; exact h
    · rw [if_neg z]; exact List.nodup_cons.mpr ⟨z, h⟩
theorem txAdd_len : ∀ {xs l : List Str}, (txAdd l xs).length ≤ l.length + xs.length
  | [], l => Nat.le_refl _
  | x :: r, l => by
    unfold txAdd
    have h := txAdd_len (xs := r) (l := if x ∈ l then l else x :: l)
    have h2 : (if x ∈ l then l else x :: l).length ≤ l.length + 1 := by
      split <;> simp
    simp only [List.length_cons]
    omega
theorem txAdd_snoc : ∀ {xs l : List Str} {k : Str}, txAdd l (xs ++ [k]) = if k ∈ txAdd l xs then txAdd l xs else k :: txAdd l xs
  | [], l, k => rfl
  | x :: r, l, k => by
    show txAdd _ (r ++ [k]) = _
    rw [txAdd_snoc]
    rfl
section
variable
  {P : Program} {w : World} {A : Around} {E : Value → Shared → Prop} {s : Shared}
theorem tx_loop {I : Addr} {fp wr : List Addr} {G : Array GenState → Array GenState → Prop} {n : Nat} {Pv : Nat → Value → Prop} {St : Nat → Shared → Prop} {R : Result → Shared → Prop}
    (W : WalksS P w A.in1 I fp wr G n Pv St) (S : Addr) (nf : S ∉ fp) (xs : List Str) (en : n = xs.length) (room : xs.length + 1 < scanBound) (val : ∀ i v, Pv i v → ∃ k u, xs[i]? = some k ∧ v = .str k u) :
    ∀ (m i : Nat) (s : Shared), n - i = m → i ≤ n → St i s → TxS P w s.heap S (txAdd [] (xs.take i)) →
      (∀ s', Moved (S :: wr) G s s' → TxS P w s'.heap S (txAdd [] xs) → R (.ok (.ret .none)) s') →
      codeAny (model P w) A (.builtin ("set.update.loop") ⟨[.ref S, .ref I], []⟩) R s := by
  have nw : S ∉ wr := fun h => nf (W.sub _ h)
  have sub : ∀ b ∈ wr, b ∈ S :: wr := fun b hb => List.mem_cons_of_mem _ hb
  intro m
  induction m with
  | zero =>
    intro i s em hi st hS fin
    have ei : i = n := by omega
    subst ei
    refine (codeAny_builtin F.entry_set_update_loop ?_)
    (rw [Around.under_plainId F.plain_set_update_loop _])
    refine wpAny_bind (W.done s _ _ st fun s' mv => wpAny_pure (fin s' (mv.mono sub) ?_))
    rw [List.take_of_length_le (by omega)] at hS
    exact hS.at fun o e => mv.heap S o nw e
  | succ m ih =>
    intro i s em hi st hS fin
    have lt : i < n := by omega
    refine (codeAny_builtin F.entry_set_update_loop ?_)
    (rw [Around.under_plainId F.plain_set_update_loop _])
    refine wpAny_bind (W.item i s _ _ lt st fun v s' pv st' mv => ?_)
    obtain ⟨k, u, ek, rfl⟩ := val i v pv
    have hS' : TxS P w s'.heap S (txAdd [] (xs.take i)) := hS.at fun o e => mv.heap S o nw e
    have hlen := txAdd_len (xs := xs.take i) (l := [])
    rw [List.length_take] at hlen
    show wpAny _ A.in1 (holding [Value.str k u] (setAdd S (.str k u)) >>= _) _ _ s'
    refine (wpAny_bind (wpAny_holding ?_))
    unfold setAdd
    refine wpAny_holding (wpAny_bind ((strKind P w).pyHash (is_str k u) ?_))
    refine txS_hashed (s := { s' with toks := s'.toks + 1 }) hS' (by simp at hlen; omega) fun b h' sb h2 => ?_
    rw [← txAdd_snoc, show xs.take i ++ [k] = xs.take (i + 1) by rw [List.take_add_one, ek]; rfl] at h2
    refine wpAny_pure ⟨plainId_quiet F.plain_set_update_loop _, ih (i + 1) _ (by omega) lt (W.frame _ s' _ _ st' (Nat.le_succ _) fun b hb o e => ?_) h2 fun s'' mv2 hS2 => ?_⟩
    · rw [sb.2 b fun z => nf (z ▸ hb)]; exact e
    · refine fin s'' (Moved.trans W.gtrans ((mv.mono sub).then_heap (Nat.le_succ _) fun b o hb e => ?_) mv2) hS2
      rw [sb.2 b fun z => hb (by rw [z]; exact List.mem_cons_self)]; exact e
theorem tx_ofList {L : Addr} {items : Array Value} {xs : List Str} {Q : Value → Shared → Prop} (hh : A.handled = none) (hL : s.heap.IsList L items) (hx : StrsAre items.toList xs) (room : xs.length + 1 < scanBound)
    (fin : ∀ (h' : Heap) (tk : Nat), TxS P w h' s.heap.objs.size (txAdd [] xs) → (∀ b o, s.heap.get? b = some o → h'.get? b = some o) → Q (.ref s.heap.objs.size) { s with heap := h', toks := tk }) :
    wpAny (model P w) A (call (.type "set") [.ref L]) Q E s := by
  have isz : items.size = xs.length := by rw [← StrsAre.len_eq hx, Array.length_toList]
  obtain ⟨c, tl, hmro⟩ := (F.called_set.mro)
  have hmade := (F.called_set.made)
  have hsub := F.called_set.sub
  refine (wpAny_call (codeAny_of_tree ?_))
  show (wpAny _ _ (callAny (.type "set") _) _ _ _)
  refine (wpAny_pure ⟨Code.quiet_builtin _ (by decide +kernel), codeAny_builtin F.entry_type_call ?_⟩)
  rw [Around.under_plain (weight_type_call_type "set" [.ref L] []) rfl]
  have h1 := (F.called_set.notType)
  have h2 := (F.called_set.canCreate)
  have hct := F.typeCall_set_1 (.ref L)
  (repeat (any_goals (first | assumption | wp_step)))
  refine codeAny_mono (code_set_led1 (.ref L) (E := E) (Q₁ := fun obj t => obj = .ref s.heap.objs.size ∧ t = { s with heap := s.heap.push (frS w) }) ⟨rfl, rfl⟩) fun r t hr => ?_
  cases r with
  | error e => exact hr
  | ok fl =>
    cases fl with
    | ret obj =>
      obtain ⟨rfl, rfl⟩ := hr
      have hS : (s.heap.push (frS w)).get? s.heap.objs.size = some (frS w) := Heap.get?_push_size _ rfl
      have hT : Shared.TypeIs { s with heap := s.heap.push (frS w) } (.ref s.heap.objs.size) "set" := ⟨_, hS, rfl⟩
      have hli := (F.called_set.init.lookup)
      have hbi := (F.called_set.init.bind (.ref s.heap.objs.size))
      (repeat (any_goals (first | assumption | wp_step)))
      refine codeAny_mono (codeAny_call_builtin (R := wants (fun r t => r = .none ∧ ∃ h' tk, t = { s with heap := h', toks := tk } ∧ TxS P w h' s.heap.objs.size (txAdd [] xs) ∧ (∀ b o, s.heap.get? b = some o → h'.get? b = some o)) E)
        F.called_set.init.plain F.entry_set_init (check_set_init_1 hT ?_)) fun r2 t2 hr2 => ?_
      · obtain ⟨⟨oc, od, odt, os0⟩, hol, hcl, nl, hdl⟩ := hL
        simp only at hcl hdl
        subst hcl; subst hdl
        have hol' : (s.heap.push (frS w)).get? L = some { cls := .type "list", dict := od, data := .seq items nl, slots := os0 } := Heap.get?_push_of_some _ hol
        have q1 := F.sub_list_set
        have q2 := F.sub_list_frozenset
        have q3 : (Value.type "list" == Value.type "dict") = false := by decide
        have hl1 : (s.heap.push (frS w)).IsList L items := ⟨_, hol', rfl, nl, rfl⟩
        unfold Builtin.«set.__init__»; unfold noKeywords; unfold Builtin.Frozenset.updateFrom
        generalize hPI : pyIter = PI
        wp_walk
        subst hPI
        refine wpAny_pyIter_list hl1 (wpAny_bind (wpAny_runValue ?_))
        have lS : L < s.heap.objs.size := Heap.lt_size hol
        have z1 : (s.heap.push (frS w)).objs.size = s.heap.objs.size + 1 := Heap.size_push ..
        have hne : L ≠ (s.heap.push (frS w)).objs.size := by rw [z1]; exact Nat.ne_of_lt (Nat.lt_succ_of_lt lS)
        have hnf : s.heap.objs.size ∉ [(s.heap.push (frS w)).objs.size, L] := by
          rw [z1]
          intro z
          rcases List.mem_cons.1 z with z | z
          · exact absurd z (Nat.ne_of_lt (Nat.lt_succ_self _))
          · have e := List.mem_singleton.mp z
            exact absurd lS (by rw [← e]; exact Nat.lt_irrefl _)
        refine tx_loop ((Walks.list (show A.in1.in1.in1.handled = none by simp [hh]) _ L hne items).toS) s.heap.objs.size hnf xs isz room (fun i v hv => ?_) (items.size - 0) 0 _ (by omega) (Nat.zero_le _) ⟨⟨_, Heap.get?_push_size _ rfl, rfl, rfl⟩, (hl1.push _)⟩ ?_ ?_
        · have hv : items[i]? = some v := hv
          have hi : i < xs.length := by rw [← isz]; exact (Array.getElem?_eq_some_iff.mp hv).1
          obtain ⟨u, e⟩ := SS.strs_at hx i v (by rw [Array.getElem?_toList]; exact hv)
          refine ⟨xs[i], u, List.getElem?_eq_getElem hi, ?_⟩
          (rw [e, List.getD_eq_getElem?_getD, List.getElem?_eq_getElem hi] <;> rfl)
        · exact txS_fresh (Heap.get?_push_of_some _ hS)
        · rintro ⟨h', g2, d', tk', os'⟩ mv hS'
          have eg : g2 = s.gens := mv.gens
          have ed : d' = s.drawn := mv.drawn
          have eo : os' = s.os := mv.os
          subst eg ed eo
          refine wpAny_pure ?_
          show (wpAny _ _ (ret Value.none) _ _ _)
          refine wpAny_pure ⟨rfl, h', tk', rfl, hS', fun b o e => ?_⟩
          have hb0 : b < s.heap.objs.size := (Heap.lt_size e)
          refine mv.heap b o (fun z => ?_) (Heap.get?_push_of_some _ (Heap.get?_push_of_some _ e))
          rcases List.mem_cons.1 z with z | z
          · exact absurd hb0 (by rw [z]; exact Nat.lt_irrefl _)
          · have e1 := List.mem_singleton.mp z
            rw [z1] at e1
            exact absurd hb0 (by rw [e1]; exact Nat.not_lt_of_le (Nat.le_succ _))
      · cases r2 with
        | error e => exact hr2
        | ok fl2 =>
          cases fl2 with
          | ret r =>
            obtain ⟨rfl, h', tk, rfl, hS', hk'⟩ := hr2
            (repeat (any_goals (first | assumption | wp_step)))
            exact fin _ _ hS' hk'
          | _ => exact hr2.elim
    | _ => exact hr.elim
end
section
variable {X : Cx}
/-- set(a list of texts) -/
def rSetTx (K : PySem.W.Frag) (P : Program) (w : World) : List V → Hp → VK → Prop := fun vs H Q => ∃ (a : Addr) (xs : List Str), vs = [.ref a] ∧ SqL K H a (xs.map V.str) ∧ xs.length + 1 < scanBound ∧ ∀ p, H p = none → Q (.ref p) (upd H p (TxO P w p (txAdd [] xs)))
theorem cr_setTx (hc : X.calm = true) : CallR X (.type "set") (rSetTx X.K X.prog X.w) := by
  intro pins s σ H vs us Q I r hh
  obtain ⟨a, xs, rfl, hs, room, q⟩ := hh
  obtain ⟨its, rv, hl, _⟩ := (I.list hs)
  rw [Vals.ref1 r]
  refine tx_ofList (I.ok.hd hc) hl.isList rv.strs room fun h' tk hS k => ?_
  have hn : H s.heap.objs.size = none := (I.hok.fresh (Nat.le_refl _))
  exact ⟨.ref _, _, I.laid (h' := h') (t' := tk) k (Nat.le_refl _) (txO_new hS), rfl, q _ hn⟩
end
end QL
set_option maxHeartbeats 2200000
/-! QY: a tuple from its end -/
namespace QL
open PySem L2 PyProof.Rows HT
section
variable {prog : Program} {w : World} {A : Around} {s : Shared} {E : Value → Shared → Prop}
theorem revAt {sl : Addr} {vl vu vs : Value} {n : Nat} {Q : Int × Int × Nat → Shared → Prop} (hs : s.heap.IsSliceOf sl vl vu vs) (pl : IsPart vl none) (pu : IsPart vu none) (ps : IsPart vs (some (-1)))
    (h : Q ((n : Int) - 1, -1, n) s) : wpAny (model prog w) A (Builtin.Slice.sliceApplied (.ref sl) (pure (n : Int))) Q E s := by
  obtain ⟨o, ho, hc, hd⟩ := hs
  unfold Builtin.Slice.sliceApplied; unfold Builtin.Slice.sliceFields
  refine wpAny_bind (wpAny_bind (wpAny_field ho hd (x := vl) rfl (wpAny_bind (wpAny_field ho hd (x := vu) rfl (wpAny_bind (wpAny_field ho hd (x := vs) rfl (wpAny_pure ?_)))))))
  refine wpAny_bind (slicePart_ ps ?_)
  show wpAny _ _ (if ((-1 : Int) == 0) = true then _ else _) _ _ s
  rw [if_neg (by decide)]
  refine (wpAny_bind (slicePart_ pl (wpAny_bind (slicePart_ pu (wpAny_bind (wpAny_pure ?_))))))
  have e1 : Builtin.Slice.sliceAdjust none none (-1) (n : Int) = ((n : Int) - 1, -1) := rfl
  have e2 : Builtin.Slice.slicePlaces ((n : Int) - 1) (-1) (-1) = n := by
    unfold Builtin.Slice.slicePlaces -- .
    simp
    omega
  show wpAny _ _ (match Builtin.Slice.sliceAdjust none none (-1) (n : Int) with | (lo, hi) => pure (lo, (-1 : Int), Builtin.Slice.slicePlaces lo hi (-1))) _ _ s
  rw [e1]
  show wpAny _ _ (pure ((n : Int) - 1, (-1 : Int), Builtin.Slice.slicePlaces ((n : Int) - 1) (-1) (-1))) _ _ s
  rw [e2]
  exact wpAny_pure h
theorem pick_rev (xs : Array Value) : ((List.range xs.size).filterMap fun (m : Nat) => xs[(((xs.size : Nat) : Int) - 1 + (m : Int) * (-1)).toNat]?).toArray = xs.toList.reverse.toArray := by
  congr 1
  have key : ∀ k, k ≤ xs.size → ((List.range k).filterMap fun (m : Nat) => xs[(((xs.size : Nat) : Int) - 1 + (m : Int) * (-1)).toNat]?) = xs.toList.reverse.take k := by
    intro k
    induction k with
    | zero => intro _; rfl
    | succ k ih =>
      intro hk
      have h1 : (((xs.size : Nat) : Int) - 1 + (k : Int) * (-1)).toNat = xs.size - 1 - k := by omega
      have h2 : xs.toList.reverse[k]? = some (xs[xs.size - 1 - k]'(by omega)) := by
        rw [List.getElem?_reverse (by rw [Array.length_toList]; exact hk), Array.length_toList, Array.getElem?_toList, Array.getElem?_eq_getElem (by omega)]
      rw [List.range_succ, List.filterMap_append, ih (by omega), List.take_add_one, h2]
      congr 1
      simp only [List.filterMap_cons, List.filterMap_nil, h1, Array.getElem?_eq_getElem (show xs.size - 1 - k < xs.size by omega), Option.toList_some]
  rw [key xs.size (Nat.le_refl _)]
  exact (List.take_of_length_le (by simp))
theorem getItem_tuple_rev {t sl : Addr} {items : Array Value} {vl vu vs : Value} {Q : Value → Shared → Prop} (ht : IsTup s.heap t items) (hs : s.heap.IsSliceOf sl vl vu vs) (pl : IsPart vl none) (pu : IsPart vu none) (ps : IsPart vs (some (-1)))
    (h : Q (.ref s.heap.objs.size) { s with heap := s.heap.push { cls := .type "tuple", data := .seq items.toList.reverse.toArray } }) (hsz : items.size ≤ sizeLine) : wpAny (model prog w) A (getItem (.ref t) (.ref sl)) Q E s := by
  have ok : sizeOk (.seq items.toList.reverse.toArray) := by
    show items.toList.reverse.toArray.size ≤ sizeLine
    rw [List.size_toArray, List.length_reverse, Array.length_toList]
    exact hsz
  have hTs : s.TypeIs (.ref sl) "slice" := by
    obtain ⟨os, hos, hcs, _⟩ := hs
    exact ⟨os, hos, hcs⟩
  unfold getItem
  try with_reducible (refine wpAny_holding ?_)
  first | (refine wpAny_bind (wpAny_pure ?_)) | skip
  refine (wpAny_bind (wpAny_sequenceKey ht.typeIs (by decide) ?_))
  refine wpAny_bind (wpAny_callSpecial?_slot (name := Str.ofString "__getitem__") ht.typeIs slot_tuple_getitem (wpAny_call_entry slot_tuple_getitem ht.typeIs entry_tuple_getitem ?_ (args_tuple_getitem _ _)))
  show (wpAny _ _ (Builtin.Tuple.tupleItemsOf (.ref t) >>= _) _ _ s)
  refine wpAny_bind (tupleItemsOf_ ht (wpAny_bind (wpAny_typeOf hTs ?_)))
  rw [if_pos (by decide)]
  refine wpAny_bind (revAt hs pl pu ps ?_)
  show wpAny _ _ (if ((((items.size : Nat) : Int) - 1 == 0) && ((-1 : Int) == 1) && (items.size == items.size)) = true then _ else _) _ _ s
  rw [if_neg (by simp), pick_rev]
  first
    | exact wpAny_bind (m := Builtin.Tuple.tupleExact _) (wpAny_newObj_type (wpAny_pure ⟨_, rfl, wpAny_pure h⟩) ok)
    | exact wpAny_bind (m := Builtin.Tuple.tupleExact _) (wpAny_newObj_type (wpAny_bind (wpAny_pure (wpAny_pure ⟨_, rfl, wpAny_pure h⟩))) ok)
end
/-- x[::-1] of a list or a tuple -/
def tRevA (K : PySem.W.Frag) (te : TE) : TE := fun σ H Q => te σ H fun x H1 => ∃ a xs, x = .ref a ∧ ((SqL K H1 a xs ∧ ∀ p, H1 p = none → Q (.ref p) (upd H1 p (.lst xs.reverse))) ∨ (SqT K H1 a xs ∧ newTup H1 xs.reverse Q))
section
variable {X : Cx}
theorem pe_revA {e : Expr} {te : TE} {k : Nat} {p1 p2 p3 pos : Pos} (he : PE X e te) : PE X (.Subscript e (.Slice none none (some (.UnaryOp .USub (.Constant (.int 1) k p1) p2)) p3) pos) (tRevA X.K te) := by
  refine ⟨fun pins s σ H Q I hh => Subscript_ (thn (he.run pins s σ H _ I hh) fun v sa ⟨x, Ha, Ia, ra, a, xs, ex, q⟩ => ?_)⟩
  cases ex
  cases ra
  have minus : PO X (some (.UnaryOp .USub (.Constant (.int 1) k p1) p2)) (tPart (tUn (rU fun i => .int (-i)) (tC (.int 1)))) := po_some (pe_un un_neg pe_int)
  refine wpAny_Slice (thn (po_none.run pins sa σ Ha (fun o G => o = none ∧ G = Ha) Ia ⟨rfl, rfl⟩) fun vl sb ⟨l, Hb, Ib, pl, el, eb⟩ => ?_)
  cases el; cases eb
  refine thn (po_none.run pins sb σ Ha (fun o G => o = none ∧ G = Ha) Ib ⟨rfl, rfl⟩) fun vu sc ⟨u, Hc, Ic, pu, eu, ec⟩ => ?_
  cases eu; cases ec
  refine thn (minus.run pins sc σ Ha (fun o G => o = some (-1) ∧ G = Ha) Ic ⟨1, rfl, -1, rfl, rfl, rfl⟩) fun vs sd ⟨o, Hd, Id, ps, eo, ed⟩ => ?_
  cases eo; cases ed
  have Ie : Inv X pins σ Ha { sd with heap := sd.heap.push { cls := .type "slice", data := .fields #[vl, vu, vs] } } := Id.kept (t' := sd.toks) fun _ _ q => Heap.get?_push_of_some _ q
  rcases q with ⟨hx, q⟩ | ⟨hx, q⟩
  · obtain ⟨its, r, hl, hz⟩ := Ie.list hx
    have hlen := r.length
    refine tail_any (ops := [.ref a, .ref sd.heap.objs.size]) hl.isList.typeIs (PySem.slot_list_getitem.lookup) ?_ (by with_unfolding_all rfl)
    refine wpAny_getItem_list_slice hl.isList (Heap.IsSliceOf.new _ vl vu vs) pl pu ps (by decide) ?_ (by rw [List.size_toArray]; omega)
    rw [PySem.W.krv_pick]
    exact ⟨.ref _, _, Ie.laid (t' := sd.toks) (o := .lst xs.reverse) (fun _ _ q => Heap.get?_push_of_some _ q) (Nat.le_refl _) ⟨by rw [List.length_reverse]; exact hz, _, 0, r.reverse, Heap.get?_push_size _ rfl⟩, rfl, q _ (Ie.hok.fresh (Nat.le_refl _))⟩
  · obtain ⟨its, r, ht, hz⟩ := Ie.tuple hx
    have hlen := r.length
    refine tail_any (ops := [.ref a, .ref sd.heap.objs.size]) ht.typeIs (PyProof.Rows.slot_tuple_getitem.lookup) ?_ (by with_unfolding_all rfl)
    refine getItem_tuple_rev ht (Heap.IsSliceOf.new _ vl vu vs) pl pu ps ?_ (by rw [List.size_toArray]; omega)
    exact tup_laid Ie r.reverse (by rw [List.length_reverse]; exact hz) q
end
end QL
set_option maxHeartbeats 2200000
/-! QNS: sorted sets of texts -/
namespace QL
open PySem L2
section
variable {C : WC} {X : Cx} {c : Ctx}
theorem once_fin {K : PySem.W.Frag} {σ : Sg} {fr fr1 : Fr} {F F1 : Addr → Prop} {H H1 : Hp} {R : Rf → Fr → Prop} {Q : VK} (h0 : FrOk K H F σ fr) (s : Stp K σ fr F H fr1 F1 H1)
    (k : ∀ r fr' v H' F', R r fr' → Stp K σ fr F H fr' F' H' → RfOk K σ fr' H' F' v r → RfNew H v r → Q v H') {l ss ys : List Str} (hq : onceW ss fun r => R r fr1) (nd : l.Nodup) (em : ∀ k, k ∈ l ↔ k ∈ ss)
    (hs : ∀ x ∈ ss, PyData.strOk x = true ∧ x.length ≤ sizeLine) (pm : ys.Perm l) (so : PyProof.Rows.sortedS ys = true) {p : Addr} (hp : H1 p = none) : Q (.ref p) (upd H1 p (.lst (ys.map V.str))) := by
  have hm : ∀ k, k ∈ ys ↔ k ∈ ss := fun k => pm.mem_iff.trans (em k)
  have s2 : Stp K σ fr1 F1 H1 fr1 F1 (upd H1 p (.lst (ys.map V.str))) := Stp.laid s.ok hp
  refine k _ fr1 _ _ _ (hq ys (pairwise_sortedS so) (pm.nodup_iff.mpr nd) hm) (s.trans h0 s2) ⟨p, rfl, fun z => s.ok.fh p z hp, fun o => s.ok.there o hp, _, upd_same, repL_ofStrs ys fun x hx => hs x ((hm x).mp hx)⟩ fun a ea => ?_
  cases ea
  cases q : H p with
  | none => rfl
  | some o => exact absurd hp (s.alive p (by rw [q]; simp))
theorem sortSet_sound (ok : CtxOk C X c) {es : CXs} {l : Expr} {p p2 p3 p4 : Pos} (hb : bltName c "sorted" = true) (hb2 : bltName c "set" = true) (h : SEL C X es [l]) :
    PE X (.Call (.Name "sorted" p) [.Call (.Name "set" p2) [l] [] p3] [] p4) (semE X (wE C (.op .sortSet es))) := by
  obtain ⟨hm, hg, hp⟩ := ok.blt hb
  obtain ⟨n1, n2, n3⟩ := plainN_ne hp
  obtain ⟨hm2, hg2, hp2⟩ := ok.blt hb2
  obtain ⟨m1, m2, m3⟩ := plainN_ne hp2
  obtain ⟨a, rfl, ha, hs⟩ := h.one
  have inner := pe_callTy (pos := p3) (p := p2) (cr_setTx ok.calm) hg2 hm2 (by decide +kernel) (pa_cons ha pa_nil (star_of hs)) m3 m1 (star_of hs) (stars_of fun e he => by cases he)
  refine pe_imp (pe_callB (cr_srtTx ok.calm) hg hm (by decide +kernel) (pa_cons inner pa_nil (star_of rfl)) n3 n1 (star_of rfl) (stars_of fun e he => by cases he)) fun σ H Q q => ?_
  obtain ⟨fr, F, R, h0, q, k⟩ := q
  refine sem1 h0 q fun ra fr2 x H2 F2 hR s ox nx => ?_
  obtain ⟨d, e1, hf⟩ := derefs1 (ra := ra) (fr := fr2) (f := one sortSetW) (R := R) hR
  have hn := ox.now s.ok e1
  cases d with
  | lst ds =>
    obtain ⟨a, vs, rfl, hq, r1⟩ := hn.lst
    obtain ⟨ss, es, lz, hf⟩ := hf
    obtain ⟨ev, ho⟩ := repL_strs r1 es
    subst ev
    refine ⟨a, ss, rfl, .of hq, by show ss.length + 1 < 4096; omega, fun p hp => ?_⟩
    have l1 := txAdd_len (xs := ss) (l := [])
    refine ⟨p, txAdd [] ss, rfl, upd_same, by show _ < 4096; simp at l1; omega, fun ys p2 pm so hp2 => ?_⟩
    have s2 : Stp X.K σ fr2 F2 H2 fr2 F2 (upd H2 p (TxO X.prog X.w p (txAdd [] ss))) := Stp.laid s.ok hp
    exact once_fin h0 (s.trans h0 s2) k hf (txAdd_nodup .nil) (fun k => by rw [txAdd_mem]; simp) ho pm so hp2
  | _ => exact hf.elim
abbrev sscT (C : WC) (t : CT) (co : CO) (e : CX) : D → Fr → (Option D → Fr → Prop) → Prop := fun x fr2 K => ∃ fr3, asgT fr2 t x = some fr3 ∧ wO C co fr3 fun b fr4 => if b = true then wE C e fr4 fun r fr5 => match frz fr5 r with
    | some (.str k, fr6) => K (some (.str k)) fr6
    | _ => False
  else K none fr4
theorem ct_in {os : List Nat} {t : CT} (hct : ctIn os t = true) : ∀ i ∈ ctSlots t, i ∈ os := by
  intro i hi
  cases t with
  | n j =>
    cases (List.mem_singleton.mp hi)
    simpa [ctIn] using hct
  | t is =>
    have h : is.all os.contains = true := hct
    simpa using List.all_eq_true.mp h i hi
  | t2 j is =>
    obtain ⟨h1, h2⟩ := and_of (show (os.contains j && is.all os.contains) = true from hct)
    rcases List.mem_cons.1 hi with rfl | hi
    · simpa using h1
    · simpa using List.all_eq_true.mp h2 i hi
theorem strsD_snoc : ∀ {ds : List D} {ss : List Str} {k : Str}, strsD ds = some ss → strsD (ds ++ [.str k]) = some (ss ++ [k])
  | [], ss, k, e => by cases e; rfl
  | .str x :: r, ss, k, e => by
    have e : (strsD r).map (x :: ·) = some ss := e
    cases q : strsD r with
    | none => (rw [q] at e; cases e)
    | some z =>
      rw [q] at e
      cases e
      show (strsD (r ++ [.str k])).map (x :: ·) = _
      rw [strsD_snoc q]
      rfl
/-- the set comprehension read, its members sorted -/
theorem ssc_imp {os : List Nat} {t : CT} {it : CI} {co : CO} {e : CX} (hct : ctIn os t = true) (σ : Sg) (H : Hp) (Q : VK) (h : semE X (wE C (.ssc os t it co e)) σ H Q) :
    tSt X.prog X.w (semI X (wI C it)) (gOf X.K t) (semT X (wO C co)) (semE X (wE C e)) os σ H fun v H' => rSrtTx X.prog X.w [v] H' Q := by
  obtain ⟨fr, F, R, h0, q, k⟩ := h
  have inOs := ct_in hct
  refine ⟨fr, F, _, h0, q, fun src fr1 ⟨sv, xs, e1, e2, _⟩ => ⟨sv, xs, e1, (itemsT_of e2).1⟩, fun src fr1 vs H1 F1 sv' J hR s so _ es hj D0 hD => ?_⟩
  obtain ⟨sv, xs, e1, e2, ho, hz, go⟩ := hR
  rw [es] at e1
  cases e1
  have ho' : ∀ i ∈ os, isOwn fr1 i = false := fun i hi => (ho i hi).1
  have hn : ∀ i ∈ os, i ∉ srcBors src := fun i hi => (ho i hi).2.2
  refine ⟨fun i m H => ∃ (fr' : Fr) (F' : Addr → Prop) (ss : List Str) (accD : List D), LcSt X.K os σ fr1 F1 H1 fr' F' H ∧ H D0 = some (TxO X.prog X.w D0 (txAdd [] ss)) ∧ ¬ F' D0 ∧ strsD accD = some ss ∧ (∀ x ∈ ss, PyData.strOk x = true ∧ x.length ≤ sizeLine) ∧ ss.length ≤ i ∧ i ≤ xs.length ∧ m = xs.length - i ∧
      lcGo src sv' os (sscT C t co e) (xs.drop i) accD fr' (fun acc fr' => ∃ ss, strsD acc = some ss ∧ onceW ss fun r => R r (restF fr1 fr' os)),
    ⟨xs.length, wipeF fr1 os, F1, [], [], LcSt.start s.ok ho' hD, upd_same, fun f => s.ok.fh D0 f hD, rfl, (fun x z => (by cases z)), Nat.le_refl _, Nat.zero_le _, by simp, go⟩, ?_⟩
  rintro i m H2 ⟨fr', F', ss, accD, L, hd, nF, ed, hss, la, li, rfl, g⟩
  have noD : ∀ {a : Addr}, Own fr1 σ a → a ≠ D0 := fun {a} o z => s.ok.there o (z ▸ hD)
  have srcN := L.src s.ok so hn
  by_cases hlt : i < xs.length
  · have edr : xs.drop i = xs[i] :: xs.drop (i + 1) := List.drop_eq_getElem_cons hlt
    rw [edr] at g
    obtain ⟨g1, g2⟩ := g
    have IA := it_at L.ok srcN g1 (itemsT_of e2).1 hj i
    refine .inr ⟨IA.go hlt, fun H' => ∃ (fr' : Fr) (F' : Addr → Prop) (ss : List Str) (accD : List D), LcSt X.K os σ fr1 F1 H1 fr' F' H' ∧ H' D0 = some (TxO X.prog X.w D0 (txAdd [] ss)) ∧ ¬ F' D0 ∧ strsD accD = some ss ∧ (∀ x ∈ ss, PyData.strOk x = true ∧ x.length ≤ sizeLine) ∧ ss.length ≤ i + 1 ∧
        lcGo src sv' os (sscT C t co e) (xs.drop (i + 1)) accD fr' (fun acc fr' => ∃ ss, strsD acc = some ss ∧ onceW ss fun r => R r (restF fr1 fr' os)), ?_, fun x H3 hy => ?_⟩
    · rintro H' ⟨fr', F', ss, accD, a1, a2, a3, a4, a5, a6, a7⟩
      exact ⟨xs.length - (i + 1), by omega, fr', F', ss, accD, a1, a2, a3, a4, a5, a6, hlt, rfl, a7⟩
    · obtain ⟨d, edx, hx⟩ := IA.yld x H3 hy hlt
      rw [List.getElem?_eq_getElem hlt] at edx
      rw [Option.some.inj edx] at g2
      obtain ⟨F3, ok3, le3, new3, keep3, rx, nF3⟩ : ∃ F3, FrOk X.K H3 F3 (wipe σ os) fr' ∧ (∀ a, F' a → F3 a) ∧ (∀ a, F3 a → F' a ∨ H2 a = none) ∧ (∀ a, H2 a ≠ none → H3 a = H2 a) ∧ ItRep X.K H3 F3 (srcPr src) x d ∧ ¬ F3 D0 := by
        rcases hx with ⟨rfl, rx⟩ | ⟨ep, T, y, z, dy, dz, rfl, hT, rfl, rfl, ry, rz⟩
        · exact ⟨F', L.ok, fun _ z => z, fun _ z => .inl z, fun _ _ => rfl, .rep rx, nF⟩
        · have st : Stp X.K (wipe σ os) fr' F' H2 fr' (fun a => F' a ∨ a = T) (upd H2 T (.tup [y, z])) := Stp.laidFz L.ok hT
          refine ⟨_, st.ok, st.le, fun a q => q.elim .inl fun (e : a = T) => .inr (by rw [e]; exact hT), fun a q => upd_ne fun e => q (e ▸ hT), .pair ep upd_same (ry.mono st.le (st.fkeep L.ok)) (rz.mono st.le (st.fkeep L.ok)), fun q => ?_⟩
          rcases q with q | q
          · exact nF q
          · rw [← q, hd] at hT; cases hT
      have hd3 : H3 D0 = some (TxO X.prog X.w D0 (txAdd [] ss)) := (keep3 D0 (by rw [hd]; simp)).trans hd
      obtain ⟨fr3, ea, g3⟩ := g2
      refine asg_it ok3 rx (itemsT_of e2).2 ea fun σ2 ok4 as => ?_
      have tn := LcSt.turn L s.ok ho' le3 new3 keep3 ok4 as inOs (Stp.refl ok4)
      refine ⟨tn.2.1, ?_⟩
      have own3 := tn.2.2
      have stay : ∀ {fr6 : Fr} {F6 : Addr → Prop} {H6 : Hp}, Stp X.K σ2 fr3 F3 H3 fr6 F6 H6 → H6 D0 = some (TxO X.prog X.w D0 (txAdd [] ss)) ∧ ¬ F6 D0 := fun {fr6 F6 H6} st => by
        have no : ¬ Own fr3 σ2 D0 := fun o => noD (own3 _ o) rfl
        refine ⟨(st.keep D0 (by rw [hd3]; simp) no).trans hd3, fun f => ?_⟩
        rcases st.new D0 f with f | f | f
        · exact nF3 f
        · rw [hd3] at f; cases f
        · exact no f.own
      refine ⟨fr3, F3, _, ok4, g3, fun b fr4 H4 F4 hb s4 => ?_⟩
      cases b with
      | false =>
        obtain ⟨t1, t2⟩ := stay s4
        exact ⟨_, F4, ss, accD, (LcSt.turn L s.ok ho' le3 new3 keep3 ok4 as inOs s4).1, t1, t2, ed, hss, Nat.le_succ_of_le la, hb⟩
      | true =>
        rw [if_pos rfl] at hb ⊢
        refine ⟨fr4, F4, _, s4.ok, hb, fun r fr5 y H5 F5 hr s5 o5 n5 => ?_⟩
        cases ef : frz fr5 r with
        | none => rw [ef] at hr; exact hr.elim
        | some p =>
          obtain ⟨dy, fr6⟩ := p
          rw [ef] at hr
          cases dy with
          | str kk =>
            obtain ⟨F6, s6, ry⟩ := Stp.freeze ok4 (s4.trans ok4 s5) o5 (n5.back s4) ef
            obtain ⟨t1, t2⟩ := stay s6
            have Lt := (LcSt.turn L s.ok ho' le3 new3 keep3 ok4 as inOs s6).1
            have l1 := txAdd_len (xs := ss) (l := [])
            cases ry with
            | str _ r1 r2 =>
              refine ⟨kk, _, rfl, t1, by show _ < 4096; simp at l1; omega, _, F6, ss ++ [kk], accD ++ [.str kk], Lt.updD s.ok hD t2, ?_, t2, strsD_snoc ed, fun x hx => ?_, by simp; exact la, hr⟩
              · rw [upd_same, txAdd_snoc]
              · rcases (List.mem_append.mp hx) with hx | hx
                · exact hss x hx
                · cases (List.mem_singleton.mp hx)
                  exact ⟨r1, r2⟩
          | _ => exact hr.elim
  · have ei : i = xs.length := by omega
    subst ei
    rw [List.drop_length] at g
    obtain ⟨g1, ss2, es2, g2⟩ := g
    rw [ed] at es2
    cases es2
    have IA := it_at L.ok srcN g1 (itemsT_of e2).1 hj xs.length
    refine .inl ⟨IA.stop rfl, D0, txAdd [] ss, rfl, hd, by
      have l1 := txAdd_len (xs := ss) (l := [])
      show _ < 4096
      simp at l1; omega, fun ys p pm sS hp => ?_⟩
    exact once_fin h0 (s.trans h0 (L.back s.ok ho')) k g2 (txAdd_nodup .nil) (fun k => by rw [txAdd_mem]; simp) hss pm sS hp
/-- .. as the checker sees it -/
theorem ssc_pe {wi : TI} {g : TG} {tt : TT} {te : TE} {elt tg iter : Expr} {ifs : List Expr} {scope : Scope} {own : List (Str × Nat)} {p p2 p3 : Pos} (ok : CtxOk C X c) (hb : bltName c "sorted" = true) (hN : X.N.Nodup) (hi : PI X tg iter wi) (bk : BlkOk X.N X.env.scope scope own)
    (hg : ∀ (s : Shared) (H : Hp) (B : Addr) (cl : List (Str × Addr)) (fp : List Addr), PG (X.blk s H scope (compEnvC scope cl B X.env) fp) tg g)
    (ht : ∀ (s : Shared) (H : Hp) (B : Addr) (cl : List (Str × Addr)) (fp : List Addr), PTs (X.blk s H scope (compEnvC scope cl B X.env) fp) ifs tt)
    (he : ∀ (s : Shared) (H : Hp) (B : Addr) (cl : List (Str × Addr)) (fp : List Addr), PE (X.blk s H scope (compEnvC scope cl B X.env) fp) elt te) (hs : ∀ x, foldedSetIterable iter X.env x = pure x) :
    PE X (.Call (.Name "sorted" p) [.SetComp elt [⟨tg, iter, ifs, 0⟩] scope p2] [] p3) (fun σ H Q => tSt X.prog X.w wi g tt te (own.map (·.2)) σ H fun v H' => rSrtTx X.prog X.w [v] H' Q) := by
  obtain ⟨hm, hg0, hp⟩ := ok.blt hb
  obtain ⟨n1, n2, n3⟩ := plainN_ne hp
  have inner : PE X (.SetComp elt [⟨tg, iter, ifs, 0⟩] scope p2) (tSt X.prog X.w wi g tt te (own.map (·.2))) := ⟨fun pins s σ H Q I hw => by
    rw [PpSet.eval_SetComp]
    refine st_core ok.calm hN I hi bk hg ht he hs hw fun D B s' m H' I' q hn f => ⟨m, hn, fun h'' sb => ?_⟩
    obtain ⟨f0, f1, f2, f3, f4, f5⟩ := (f)
    exact ⟨.ref D, H', I'.turned (t' := s'.toks) (fun b o hb e => (sb.2 b hb).trans e) f0 f1 f3 f4 f5, rfl, q⟩⟩
  exact pe_callB (cr_srtTx ok.calm) hg0 hm (by decide +kernel) (pa_cons inner pa_nil (star_of rfl)) n3 n1 (star_of rfl) (stars_of fun e he => by cases he)
theorem slRev_sound {es : CXs} {l : Expr} {k : Nat} {p1 p2 p3 pos : Pos} (h : SEL C X es [l]) : PE X (.Subscript l (.Slice none none (some (.UnaryOp .USub (.Constant (.int 1) k p1) p2)) p3) pos) (semE X (wE C (.op .slRev es))) := by
  obtain ⟨a, rfl, ha, hs⟩ := h.one
  refine pe_imp (pe_revA ha) fun σ H Q q => sem_mono (op1_imp (o := .slRev) (f := revW) (fun _ _ _ z => z) q) fun v H1 z => ?_
  obtain ⟨σ, fr, F, d, R, ok, hx, hr, fin⟩ := z
  cases d with
  | lst ds =>
    obtain ⟨a, ws, e, h, r⟩ := hx.lst
    exact ⟨a, ws, e, .inl ⟨.of h, fun p hp => fin.newL ok hr r.reverse hp⟩⟩
  | tup ds =>
    obtain ⟨a, ws, e, h, r⟩ := hx.tup
    exact ⟨a, ws, e, .inr ⟨h, fun p o hd hp => fin.newT ok hr r.reverse hp hd⟩⟩
  | _ => exact hr.elim
theorem lrng_sound (ok : CtxOk C X c) {es : CXs} {l : Expr} {p p2 p3 p4 : Pos} (hb : bltName c "list" = true) (hb2 : bltName c "range" = true) (h : SEL C X es [l]) : PE X (.Call (.Name "list" p) [.Call (.Name "range" p2) [l] [] p3] [] p4) (semE X (wE C (.op .lrng es))) := by
  obtain ⟨hm, hg, hp⟩ := ok.blt hb
  obtain ⟨hm2, hg2, hp2⟩ := ok.blt hb2
  obtain ⟨a, rfl, ha, hs⟩ := h.one
  refine pe_imp (pe_listRg ok.calm hg hm (prg_1 hg2 hm2 ha (star_of hs)) (star_of rfl)) fun σ H Q q => sem_mono (op1_imp (o := .lrng) (f := lrngW) (fun _ _ _ z => z) q) fun v H1 z => ?_
  obtain ⟨σ, fr, F, d, R, ok', hx, hr, fin⟩ := z
  cases d with
  | int j =>
    obtain ⟨h1, h2, h3⟩ := hr
    refine ⟨j, hx.int, ⟨by omega, by omega, by omega, by omega, by omega⟩, fun p hp => fin.newL ok' h3 ?_ hp⟩
    have e : (j - 0).toNat = j.toNat := by omega
    unfold rgV
    rw [e]
    generalize List.range j.toNat = is
    induction is with
    | nil => exact .nil
    | cons i r ih => exact .cons (.int _) ih
  | _ => exact hr.elim
end
end QL
set_option maxHeartbeats 2200000
/-! QO: the checker is sound: expressions -/
namespace QL
open PySem L2
section
variable {C : WC} {X : Cx} {c : Ctx}
theorem CtxOk.blk (ok : CtxOk C X c) {s : Shared} {H : Hp} {scope : Scope} {cl : List (Str × Addr)} {a : Addr} {fp : List Addr} : CtxOk C (X.blk s H scope (compEnvC scope cl a X.env) fp) (inner c scope) where
  sc := by
    show relS scope X.env.scope = relS scope c.sc
    rw [ok.sc]
  N := ok.N
  nd := ok.nd
  calm := ok.calm
  fn := fun x h => by
    show (scope.names.lookup x == some .cell) = true
    have h : scope.names.lookup x = some .cell := h
    rw [h]
    rfl
  bl := ok.bl
  fns := ok.fns
  xe := rfl
theorem k_sound {d : D} {k : Const} {n : Nat} {p : Pos} (h : constOk d k = true) : PE X (.Constant k n p) (semE X (wE C (.k d))) := by
  have fin : ∀ {v : V} {d : D}, (∀ H F, Rep X.K H F v d) → ∀ (σ : Sg) (H : Hp) (Q : VK), semE X (wE C (.k d)) σ H Q → tC v σ H Q := fun {v d} r σ H Q q => by
    obtain ⟨fr, F, R, h0, q, k⟩ := q
    exact k _ fr v H F q (Stp.refl h0) (r H F) trivial
  cases d <;> cases k <;> first | (cases h; done) | skip
  · exact pe_imp pe_non (fin fun _ _ => .non)
  · rename_i b c
    have e : b = c := by simpa [constOk] using h
    subst e
    exact pe_imp pe_bl (fin fun _ _ => .bl _)
  · rename_i b c
    have e : b = c := by simpa [constOk] using h
    subst e
    exact pe_imp pe_int (fin fun _ _ => .int _)
  · obtain ⟨h12, h3⟩ := and_of h
    obtain ⟨h1, h2⟩ := and_of h12
    have e := of_decide_eq_true h1
    subst e
    have h3 := of_decide_eq_true h3
    have hs := sizeLine_eq
    exact pe_imp pe_str (fin fun _ _ => .str _ h2 (by omega))
theorem v_sound (ok : CtxOk C X c) {i : Nat} {x : Str} {p : Pos} (hn : c.N[i]? = some x) (hv : visB c.sc x = true) (hp : plainN x = true) : PE X (.Name x p) (semE X (wE C (.v i))) := by
  obtain ⟨n1, n2, n3⟩ := plainN_ne hp
  refine pe_imp (pe_var (by rw [ok.N]; exact hn) (ok.vis hv) n1 n2) fun σ H Q q => ?_
  obtain ⟨fr, F, R, h0, q, k⟩ := q
  cases e : fr[i]? with
  | none => simp only [wE, e] at q
  | some s =>
    cases s with
    | none => simp only [wE, e] at q
    | val d =>
      simp only [wE, e] at q
      obtain ⟨v, e1, r⟩ := h0.val i d e
      exact ⟨v, e1, k _ fr v H F q (Stp.refl h0) r trivial⟩
    | own b d =>
      simp only [wE, e] at q
      obtain ⟨a, e1, _⟩ := h0.own i b d e
      exact ⟨.ref a, e1, k _ fr _ H F q (Stp.refl h0) ⟨e1, _, e, fun z => by cases z⟩ trivial⟩
theorem fz_sound {a : CX} {e : Expr} (h : PE X e (semE X (wE C a))) : PE X e (semE X (wE C (.fz a))) := by
  refine pe_imp h fun σ H Q q => ?_
  obtain ⟨fr, F, R, h0, q, k⟩ := q
  refine sem1 h0 q fun r fr1 v H1 F1 hR s o n => ?_
  cases e1 : frz fr1 r with
  | none => rw [e1] at hR; exact hR.elim
  | some p =>
    obtain ⟨d, fr2⟩ := p
    rw [e1] at hR
    obtain ⟨F2, s2, rv⟩ := Stp.freeze h0 s o n e1
    exact k _ fr2 v H1 F2 hR s2 rv trivial
/-- a test by its value -/
theorem truth_sound {a : CX} {e : Expr} (h : PE X e (semE X (wE C a))) (hp : plainT e = true) (hw : ∀ fr R, wT C a fr R → wE C a fr fun r fr2 => match deref fr2 r with
      | some d => match truthy d with
        | some b => R b fr2
        | none => False
      | none => False) : PT X e (semT X (wT C a)) := by
  refine pt_imp (pt_truth h (isTrue_of hp)) fun σ H Q q => ?_
  obtain ⟨fr, F, R, h0, q, k⟩ := q
  refine sem1 h0 (hw _ _ q) fun r fr1 v H1 F1 hR s o n => ?_
  cases e1 : deref fr1 r with
  | none => rw [e1] at hR; exact hR.elim
  | some d =>
    rw [e1] at hR
    cases e2 : truthy d with
    | none => simp only [e2] at hR
    | some b =>
      simp only [e2] at hR
      exact ⟨b, truV_of (o.now s.ok e1) e2, k b fr1 H1 F1 hR s⟩
theorem pw_of {op : BoolOp} {l : List Expr} {p : Pos} {t : TT} (h : PT X (.BoolOp op l p) t) : PW X (.BoolOp op l p) t := ⟨fun wh pins s σ H Q I q => h.run pins s σ H Q I q⟩
theorem pt_false {a : CX} {e : Expr} (h : ∀ fr R, ¬ wT C a fr R) : PT X e (semT X (wT C a)) := ⟨fun pins s σ H Q I ⟨fr, F, R, h0, q, k⟩ => (h fr R q).elim⟩
theorem semT1 {wa : Fr → (Bool → Fr → Prop) → Prop} {σ : Sg} {H : Hp} {fr : Fr} {F : Addr → Prop} {R : Bool → Fr → Prop} {P : Bool → Hp → Prop} (h0 : FrOk X.K H F σ fr) (h : wa fr R)
    (k : ∀ b fr' H' F', R b fr' → Stp X.K σ fr F H fr' F' H' → P b H') : semT X wa σ H P := ⟨fr, F, R, h0, h, k⟩
theorem andT_imp {a b : CX} (σ : Sg) (H : Hp) (Q : Bool → Hp → Prop) (q : semT X (wT C (.and a b)) σ H Q) : tAnd (semT X (wT C a)) (semT X (wT C b)) σ H Q := by
  obtain ⟨fr, F, R, h0, q, k⟩ := q
  refine semT1 h0 q fun c fr1 H1 F1 hR s => ?_
  cases c with
  | true => exact ⟨fr1, F1, R, s.ok, hR, fun b fr2 H2 F2 hb s2 => k b fr2 H2 F2 hb (s.trans h0 s2)⟩
  | false => exact k false fr1 H1 F1 hR s
theorem orT_imp {a b : CX} (σ : Sg) (H : Hp) (Q : Bool → Hp → Prop) (q : semT X (wT C (.or a b)) σ H Q) : tOr (semT X (wT C a)) (semT X (wT C b)) σ H Q := by
  obtain ⟨fr, F, R, h0, q, k⟩ := q
  refine semT1 h0 q fun c fr1 H1 F1 hR s => ?_
  cases c with
  | false => exact ⟨fr1, F1, R, s.ok, hR, fun b fr2 H2 F2 hb s2 => k b fr2 H2 F2 hb (s.trans h0 s2)⟩
  | true => exact k true fr1 H1 F1 hR s
theorem andV_imp {a b : CX} (σ : Sg) (H : Hp) (Q : VK) (q : semE X (wE C (.and a b)) σ H Q) : tAndV (semE X (wE C a)) (semE X (wE C b)) σ H Q := by
  obtain ⟨fr, F, R, h0, q, k⟩ := q
  refine sem1 h0 q fun r fr1 v H1 F1 hR s o n => ?_
  cases e : deref fr1 r with
  | none => rw [e] at hR; exact hR.elim
  | some d =>
    rw [e] at hR
    cases d <;> first | exact hR.elim | skip
    rename_i c
    refine ⟨c, (o.now s.ok e).bl, ?_⟩
    cases c with
    | true => exact ⟨fr1, F1, R, s.ok, hR, fun r2 fr2 v2 H2 F2 hb s2 o2 n2 => k r2 fr2 v2 H2 F2 hb (s.trans h0 s2) o2 (n2.back s)⟩
    | false => exact k _ fr1 _ H1 F1 hR s (.bl false) trivial
theorem orV_imp {a b : CX} (σ : Sg) (H : Hp) (Q : VK) (q : semE X (wE C (.or a b)) σ H Q) : tOrV (semE X (wE C a)) (semE X (wE C b)) σ H Q := by
  obtain ⟨fr, F, R, h0, q, k⟩ := q
  refine sem1 h0 q fun r fr1 v H1 F1 hR s o n => ?_
  cases e : deref fr1 r with
  | none => rw [e] at hR; exact hR.elim
  | some d =>
    rw [e] at hR
    cases d <;> first | exact hR.elim | skip
    rename_i c
    refine ⟨c, (o.now s.ok e).bl, ?_⟩
    cases c with
    | false => exact ⟨fr1, F1, R, s.ok, hR, fun r2 fr2 v2 H2 F2 hb s2 o2 n2 => k r2 fr2 v2 H2 F2 hb (s.trans h0 s2) o2 (n2.back s)⟩
    | true => exact k _ fr1 _ H1 F1 hR s (.bl true) trivial
theorem notV_imp {a : CX} (σ : Sg) (H : Hp) (Q : VK) (q : semE X (wE C (.not a)) σ H Q) : tNotV (semE X (wE C a)) σ H Q := by
  obtain ⟨fr, F, R, h0, q, k⟩ := q
  refine sem1 h0 q fun r fr1 v H1 F1 hR s o n => ?_
  cases e : deref fr1 r with
  | none => rw [e] at hR; exact hR.elim
  | some d =>
    rw [e] at hR
    cases d <;> first | exact hR.elim | skip
    rename_i c
    exact ⟨c, (o.now s.ok e).bl, k _ fr1 _ H1 F1 hR s (.bl (!c)) trivial⟩
theorem ife_imp {t a b : CX} (σ : Sg) (H : Hp) (Q : VK) (q : semE X (wE C (.ife t a b)) σ H Q) : tIf (semT X (wT C t)) (semE X (wE C a)) (semE X (wE C b)) σ H Q := by
  obtain ⟨fr, F, R, h0, q, k⟩ := q
  refine semT1 h0 q fun c fr1 H1 F1 hR s => ?_
  cases c with
  | true => exact ⟨fr1, F1, R, s.ok, hR, fun r2 fr2 v2 H2 F2 hb s2 o2 n2 => k r2 fr2 v2 H2 F2 hb (s.trans h0 s2) o2 (n2.back s)⟩
  | false => exact ⟨fr1, F1, R, s.ok, hR, fun r2 fr2 v2 H2 F2 hb s2 o2 n2 => k r2 fr2 v2 H2 F2 hb (s.trans h0 s2) o2 (n2.back s)⟩
theorem tup_imp {es : CXs} (σ : Sg) (H : Hp) (Q : VK) (q : semE X (wE C (.tup es)) σ H Q) : tTupF (semZ X (wZ C es)) σ H Q := by
  obtain ⟨fr, F, R, h0, q, k⟩ := q
  refine ⟨fr, F, _, h0, q, fun ds fr1 vs H1 F1 hR s r => ⟨by rw [r.length]; exact hR.1, fun p o hd hp => ?_⟩⟩
  have s2 : Stp X.K σ fr1 F1 H1 fr1 (fun a => F1 a ∨ a = p) (upd H1 p (.frz o (.tup vs))) := Stp.laidFz s.ok hp
  exact k _ fr1 _ _ _ hR.2 (s.trans h0 s2) (.tup (.inl ⟨.inr rfl, o, hd, upd_same⟩) (r.mono s2.le (s2.fkeep s.ok))) trivial
theorem lst_imp {es : CXs} (σ : Sg) (H : Hp) (Q : VK) (q : semE X (wE C (.lst es)) σ H Q) : tLst (semZ X (wZ C es)) σ H Q := by
  obtain ⟨fr, F, R, h0, q, k⟩ := q
  refine ⟨fr, F, _, h0, q, fun ds fr1 vs H1 F1 hR s r => ⟨by rw [r.length]; exact hR.1, fun p hp => ?_⟩⟩
  have s2 : Stp X.K σ fr1 F1 H1 fr1 F1 (upd H1 p (.lst vs)) := Stp.laid s.ok hp
  refine k _ fr1 _ _ _ hR.2 (s.trans h0 s2) ⟨p, rfl, fun z => s.ok.fh p z hp, fun o => s.ok.there o hp, vs, upd_same, r.mono s2.le (s2.fkeep s.ok)⟩ fun a e => ?_
  cases e
  cases q : H p with
  | none => rfl
  | some o => exact absurd hp (s.alive p (by rw [q]; simp))
/-- a comparison as a test -/
theorem cmpT_sound (ok : CtxOk C X c) {o : Op} {b : CmpOp} {es : CXs} {l r : Expr} {pos : Pos} (ho : opCmp o = some b) (h : SEL C X es [l, r]) (hs : noSet r = true) : PT X (.Compare l [b] [r] pos) (semT X (wT C (.op o es))) := by
  obtain ⟨a, d, rfl, ha, hd, _, _⟩ := h.two
  refine pt_imp (pt_cmpR (cmp_rule ok ho) ha hd (marks_of hs)) fun σ H Q q => ?_
  obtain ⟨fr, F, R, h0, q, k⟩ := q
  refine sem2 h0 q fun ra rb fr2 x y H2 F2 hR s ox oy => ?_
  have hR := cmp_opW ho ra rb fr2 (fun r fr2 => match deref fr2 r with
      | some d => match truthy d with
        | some b => R b fr2
        | none => False
      | none => False) hR
  obtain ⟨d, e, e1, e2, hf⟩ := derefs2 (o := o) (f := two (cmpW o)) (R := fun r fr2 => match deref fr2 r with
      | some d => match truthy d with
        | some b => R b fr2
        | none => False
      | none => False) hR
  refine ⟨σ, fr2, F2, d, e, _, s.ok, ox.now s.ok e1, oy.now s.ok e2, cmp_shape hf, fun r v H' F' hr s' o' n' => ?_⟩
  obtain ⟨⟨kk, rfl⟩, hr⟩ := hr
  have ev : v = .bl kk := by
    cases (show Rep X.K H' F' v (.bl kk) from o')
    rfl
  exact ⟨kk, ev, k kk fr2 H' F' hr (s.trans h0 s')⟩
def tR (R : Bool → Fr → Prop) : Rf → Fr → Prop := fun r fr2 => match deref fr2 r with
      | some d => match truthy d with
        | some b => R b fr2
        | none => False
      | none => False
theorem isNT_sound (ok : CtxOk C X c) {o : Op} {op : CmpOp} {es : CXs} {l r : Expr} {pos : Pos} (ho : (o = .isN ∧ op = .Is) ∨ (o = .notN ∧ op = .IsNot)) (hr : isNoneC r = true) (h : SEL C X es [l]) : PT X (.Compare l [op] [r] pos) (semT X (wT C (.op o es))) := by
  obtain ⟨a, rfl, ha, _⟩ := h.one
  cases r with
  | Constant k _ _ =>
    cases k <;> first | (cases hr; done) | skip
    have key : ∀ {o : Op} {bb : Bool} {σ : Sg} {H : Hp} {Q : Bool → Hp → Prop} (f : V → Bool), (∀ ra fr R, opW o [ra] fr R → match derefs fr [ra] with | some ds => one (isNW bb) ds (fun r => R r fr) | none => False) →
        (∀ v, f v = (decide (v = .non) != bb)) → semT X (wT C (.op o (.cons a .nil))) σ H Q → semE X (wE C a) σ H fun x H1 => Q (f x) H1 := fun {o bb σ H Q} f hw hf q => by
      obtain ⟨fr, F, R, h0, q, k⟩ := q
      refine sem1 h0 q fun ra fr2 x H2 F2 hR s ox nx => ?_
      obtain ⟨d, e1, hR⟩ := derefs1 (ra := ra) (fr := fr2) (f := one (isNW bb)) (R := tR R) (hw ra fr2 (tR R) hR)
      have hx := ox.now s.ok e1
      rw [hf]
      have fin : ∀ b, R b fr2 → Q b H2 := fun b hb => k b fr2 H2 F2 hb s
      cases d with
      | non =>
        rw [hx.non]
        have hR : R (!bb) fr2 := hR
        cases bb <;> exact fin _ hR
      | bl b => rw [hx.bl]; have hR : R bb fr2 := hR; cases bb <;> exact fin _ hR
      | int b => rw [hx.int]; have hR : R bb fr2 := hR; cases bb <;> exact fin _ hR
      | str b => rw [hx.str.1]; have hR : R bb fr2 := hR; cases bb <;> exact fin _ hR
      | tup b => obtain ⟨a, _, rfl, _⟩ := hx.tup; have hR : R bb fr2 := hR; cases bb <;> exact fin _ hR
      | lst b => obtain ⟨a, _, rfl, _⟩ := hx.lst; have hR : R bb fr2 := hR; cases bb <;> exact fin _ hR
      | frl b => obtain ⟨a, _, rfl, _⟩ := hx.frl; have hR : R bb fr2 := hR; cases bb <;> exact fin _ hR
      | dct b b' => obtain ⟨a, _, rfl, _⟩ := hx.dct; have hR : R bb fr2 := hR; cases bb <;> exact fin _ hR
      | set b =>
        rcases hx with hx | ⟨_, _, hx⟩
        · cases hx
        · exact hx.elim
    rcases ho with ⟨rfl, rfl⟩ | ⟨rfl, rfl⟩
    · refine pt_imp (pt_cmp (pc_isN ha)) fun σ H Q q => ?_
      refine sem_mono (key (o := .isN) (bb := false) (fun v => decide (v = .non)) (fun _ _ _ z => z) (fun v => by cases (decide (v = V.non)) <;> rfl) q) fun v H' z => ⟨_, rfl, z⟩
    · refine pt_imp (pt_cmp (pc_notN ha)) fun σ H Q q => ?_
      refine sem_mono (key (o := .notN) (bb := true) (fun v => !decide (v = .non)) (fun _ _ _ z => z) (fun v => by cases (decide (v = V.non)) <;> rfl) q) fun v H' z => ⟨_, rfl, z⟩
  | _ => cases hr
end
end QL
set_option maxHeartbeats 2200000
/-! QP: the checker is sound: the expressions together -/
namespace QL
open PySem L2
section
variable {C : WC} {X : Cx} {c : Ctx}
theorem and_pe {a b : CX} {x y : Expr} {r : List Expr} {p : Pos} (ha : PE X x (semE X (wE C a)) ∧ PT X x (semT X (wT C a)))
    (hb : (r = [] ∧ PE X y (semE X (wE C b)) ∧ PT X y (semT X (wT C b))) ∨ (PE X (.BoolOp .And (y :: r) p) (semE X (wE C b)) ∧ PT X (.BoolOp .And (y :: r) p) (semT X (wT C b)))) :
    PE X (.BoolOp .And (x :: y :: r) p) (semE X (wE C (.and a b))) ∧ PT X (.BoolOp .And (x :: y :: r) p) (semT X (wT C (.and a b))) := by
  rcases hb with ⟨rfl, h1, h2⟩ | ⟨h1, h2⟩
  · exact ⟨pe_imp (pe_and ha.1 (pe_one h1)) andV_imp, pt_imp (pw_and ha.2 (pw_and1 h2)).pt andT_imp⟩
  · exact ⟨pe_imp (pe_and ha.1 h1) andV_imp, pt_imp (pw_and ha.2 (pw_of h2)).pt andT_imp⟩
theorem or_pe {a b : CX} {x y : Expr} {r : List Expr} {p : Pos} (ha : PE X x (semE X (wE C a)) ∧ PT X x (semT X (wT C a)))
    (hb : (r = [] ∧ PE X y (semE X (wE C b)) ∧ PT X y (semT X (wT C b))) ∨ (PE X (.BoolOp .Or (y :: r) p) (semE X (wE C b)) ∧ PT X (.BoolOp .Or (y :: r) p) (semT X (wT C b)))) :
    PE X (.BoolOp .Or (x :: y :: r) p) (semE X (wE C (.or a b))) ∧ PT X (.BoolOp .Or (x :: y :: r) p) (semT X (wT C (.or a b))) := by
  rcases hb with ⟨rfl, h1, h2⟩ | ⟨h1, h2⟩
  · exact ⟨pe_imp (pe_or ha.1 (pe_one h1)) orV_imp, pt_imp (pw_or ha.2 (pw_or1 h2)).pt orT_imp⟩
  · exact ⟨pe_imp (pe_or ha.1 h1) orV_imp, pt_imp (pw_or ha.2 (pw_of h2)).pt orT_imp⟩

theorem neg_sound {es : CXs} {l : Expr} {pos : Pos} (h : SEL C X es [l]) : PE X (.UnaryOp .USub l pos) (semE X (wE C (.op .neg es))) := by
  obtain ⟨a, rfl, ha, hs⟩ := h.one
  refine pe_imp (pe_un un_neg ha) fun σ H Q q => ?_
  refine sem_mono (op1_imp (o := .neg) (f := fun x Q => match x with
    | .int i => Q (.val (.int (-i)))
    | _ => False) (fun _ _ _ z => z) q) fun v H1 z => ?_
  obtain ⟨σ, fr, F, d, R, ok, hx, hr, fin⟩ := z
  cases d <;> first | exact hr.elim | skip
  rename_i i
  exact ⟨i, hx.int, fin.scal ok hr (.int _)⟩
/-- what the checker promises of an operation -/
theorem both {o : Op} {es : CXs} {e : Expr} (h : PE X e (semE X (wE C (.op o es)))) (hp : plainT e = true) : PE X e (semE X (wE C (.op o es))) ∧ PT X e (semT X (wT C (.op o es))) := ⟨h, truth_sound h hp fun _ _ z => z⟩
theorem op_sound (ok : CtxOk C X c) {o : Op} {es : CXs} {e : Expr} (hl : ∀ l, chkEs c es l = true → SEL C X es l) (h : chkE c (.op o es) e = true) : PE X e (semE X (wE C (.op o es))) ∧ PT X e (semT X (wT C (.op o es))) := by
  unfold chkE at h
  split at h
  · obtain ⟨h1, h2⟩ := and_of h
    exact both (bin_sound ok (of_decide_eq_true h1) (hl _ h2)) rfl
  · obtain ⟨h1, h2⟩ := and_of h
    have h1 := of_decide_eq_true h1
    subst h1
    exact both (neg_sound (hl _ h2)) rfl
  · rcases or_of h with h | h
    · obtain ⟨h12, h3⟩ := and_of h
      obtain ⟨h1, h2⟩ := and_of h12
      exact ⟨cmp_sound ok (of_decide_eq_true h1) (hl _ h3) h2, cmpT_sound ok (of_decide_eq_true h1) (hl _ h3) h2⟩
    · obtain ⟨h12, h3⟩ := and_of h
      obtain ⟨h1, h2⟩ := and_of h12
      rcases or_of h2 with h | h
      · obtain ⟨a1, a2⟩ := and_of h
        have a1 := of_decide_eq_true a1
        have a2 := of_decide_eq_true a2
        subst a1 a2
        exact ⟨isN_sound ok h1 (hl _ h3), isNT_sound ok (.inl ⟨rfl, rfl⟩) h1 (hl _ h3)⟩
      · obtain ⟨a1, a2⟩ := and_of h
        have a1 := of_decide_eq_true a1
        have a2 := of_decide_eq_true a2
        subst a1 a2
        exact ⟨notN_sound ok h1 (hl _ h3), isNT_sound ok (.inr ⟨rfl, rfl⟩) h1 (hl _ h3)⟩
  · rcases or_of h with h | h
    · obtain ⟨h12, h3⟩ := and_of h
      obtain ⟨h1, h2⟩ := and_of h12
      exact both (blt1_sound ok (of_decide_eq_true h1) h2 (hl _ h3)) rfl
    · split at h
      · rcases or_of h with h | h
        · obtain ⟨h12345, h6⟩ := and_of h
          obtain ⟨h1234, h5⟩ := and_of h12345
          obtain ⟨h123, h4⟩ := and_of h1234
          obtain ⟨h12, h3⟩ := and_of h123
          obtain ⟨h1, h2⟩ := and_of h12
          have h1 := of_decide_eq_true h1
          have h2 := of_decide_eq_true h2
          have h3 := of_decide_eq_true h3
          subst h1 h2 h3
          exact both (sortSet_sound ok h4 h5 (hl _ h6)) rfl
        · obtain ⟨h12345, h6⟩ := and_of h
          obtain ⟨h1234, h5⟩ := and_of h12345
          obtain ⟨h123, h4⟩ := and_of h1234
          obtain ⟨h12, h3⟩ := and_of h123
          obtain ⟨h1, h2⟩ := and_of h12
          have h1 := of_decide_eq_true h1
          have h2 := of_decide_eq_true h2
          have h3 := of_decide_eq_true h3
          subst h1 h2 h3
          exact both (lrng_sound ok h4 h5 (hl _ h6)) rfl
      · cases h
  · rcases or_of h with h | h
    · obtain ⟨h12, h3⟩ := and_of h
      obtain ⟨h1, h2⟩ := and_of h12
      exact both (blt2_sound ok (of_decide_eq_true h1) h2 (hl _ h3)) rfl
    · obtain ⟨h1234, h5⟩ := and_of h
      obtain ⟨h123, h4⟩ := and_of h1234
      obtain ⟨h12, h3⟩ := and_of h123
      obtain ⟨h1, h2⟩ := and_of h12
      have h1 := of_decide_eq_true h1
      subst h1
      split at h5
      · exact both (isi1_sound ok h2 (hl _ h3) h5) rfl
      · split at h5
        · obtain ⟨a1, a2⟩ := and_of h5
          exact both (isiT_sound ok h2 (hl _ h3) a1 (of_decide_eq_true a2)) rfl
        · cases h5
      · cases h5
  · rename_i a i p
    by_cases hs : noSlice i = true
    · have h : (decide (o = .ix) && chkEs c es [a, i]) = true := by
        cases i <;> first | exact h | (cases hs; done)
      obtain ⟨h1, h2⟩ := and_of h
      have h1 := of_decide_eq_true h1
      subst h1
      exact both (ix_sound ok (hl _ h2) hs) rfl
    · split at h
      · obtain ⟨h1, h2⟩ := and_of h
        have h1 := of_decide_eq_true h1
        subst h1
        exact both (slAll_sound ok (hl _ h2)) rfl
      · obtain ⟨h1, h2⟩ := and_of h
        have h1 := of_decide_eq_true h1
        subst h1
        exact both (slLo_sound ok (hl _ h2)) rfl
      · obtain ⟨h1, h2⟩ := and_of h
        have h1 := of_decide_eq_true h1
        subst h1
        exact both (slHi_sound ok (hl _ h2)) rfl
      · obtain ⟨h1, h2⟩ := and_of h
        have h1 := of_decide_eq_true h1
        subst h1
        exact both (slRev_sound (hl _ h2)) rfl
      · cases h
      · rename_i hx
        exfalso
        apply hs
        cases i <;> first | rfl | exact (hx _ _ _ _ rfl).elim
  · cases h
theorem mt_sound (ok : CtxOk C X c) {o : Op} {a : CX} {es : CXs} {e : Expr} (ha : ∀ r, chkE c a r = true → PE X r (semE X (wE C a))) (hl : ∀ l, chkEs c es l = true → SEL C X es l) (h : chkE c (.mt o a es) e = true) : PE X e (semE X (wE C (.mt o a es))) := by
  unfold chkE at h
  split at h
  · obtain ⟨h1234, h5⟩ := and_of h
    obtain ⟨h123, h4⟩ := and_of h1234
    obtain ⟨h12, h3⟩ := and_of h123
    obtain ⟨h1, h2⟩ := and_of h12
    have h5 := hl _ h5
    have h4 := ha _ h4
    split at h3
    · have h3 := of_decide_eq_true h3
      have : es = .nil := by cases es with
        | nil => rfl
        | cons => exact h5.elim
      subst this
      cases o <;> first | (cases h3; done) | skip
      · cases h3; exact pop_sound h4 h2 h1
      · cases h3; exact reverse_sound h4 h2 h1
    · have h3 := of_decide_eq_true h3
      cases o <;> first | (cases h3; done) | skip
      · cases h3; exact append_sound h4 h2 h1 h5
      · cases h3; exact join_sound h4 h2 h1 h5
      · cases h3; exact indexL_sound h4 h2 h1 h5
      · cases h3; exact indexT_sound h4 h2 h1 h5
    · have h3 := of_decide_eq_true h3
      cases o <;> first | (cases h3; done) | skip
      cases h3; exact insert_sound h4 h2 h1 h5
    · cases h3
  · cases h
theorem no_pt {a : CX} {e : Expr} (h : PE X e (semE X (wE C a))) (hf : ∀ fr R, ¬ wT C a fr R) : PE X e (semE X (wE C a)) ∧ PT X e (semT X (wT C a)) := ⟨h, pt_false hf⟩
mutual
theorem soundE : ∀ (a : CX) {X : Cx} {c : Ctx} (ok : CtxOk C X c) {e : Expr}, chkE c a e = true → PE X e (semE X (wE C a)) ∧ PT X e (semT X (wT C a))
  | .k d, X, c, ok, e, h => by
    unfold chkE at h
    split at h
    · rename_i k n p
      have hk := k_sound (X := X) (C := C) (n := n) (p := p) h
      exact ⟨hk, truth_sound hk rfl fun fr R z => z⟩
    · cases h
  | .v i, X, c, ok, e, h => by
    unfold chkE at h
    split at h
    · obtain ⟨h12, h3⟩ := and_of h
      obtain ⟨h1, h2⟩ := and_of h12
      rename_i x p
      have hv := v_sound (p := p) ok (of_decide_eq_true h1) h2 h3
      refine ⟨hv, truth_sound hv rfl fun fr R z => ?_⟩
      cases e : fr[i]? with
      | none => simp [wT, deref, e] at z
      | some s => cases s <;> simp [wT, wE, deref, e] at z ⊢ <;> exact z
    · cases h
  | .fz a, X, c, ok, e, h => by
    unfold chkE at h
    exact no_pt (fz_sound (soundE a ok h).1) fun _ _ z => z
  | .op o es, X, c, ok, e, h => op_sound ok (fun l hl => soundL es ok hl) h
  | .mt o a es, X, c, ok, e, h => no_pt (mt_sound ok (fun l hl => (soundE a ok hl).1) (fun l hl => soundL es ok hl) h) fun _ _ z => z
  | .sl2 a lo hi, X, c, ok, e, h => by
    unfold chkE at h
    split at h
    · obtain ⟨h12, h3⟩ := and_of h
      obtain ⟨h1, h2⟩ := and_of h12
      exact no_pt (sl2_sound (soundE a ok h1).1 (soundE lo ok h2).1 (soundE hi ok h3).1) fun _ _ z => z
    · cases h
  | .and a b, X, c, ok, e, h => by
    unfold chkE at h
    split at h
    · obtain ⟨h1, h2⟩ := and_of h
      split at h2
      · exact and_pe (soundE a ok h1) (.inl ⟨rfl, soundE b ok h2⟩)
      · exact and_pe (soundE a ok h1) (.inr (soundE b ok h2))
    · cases h
  | .or a b, X, c, ok, e, h => by
    unfold chkE at h
    split at h
    · obtain ⟨h1, h2⟩ := and_of h
      split at h2
      · exact or_pe (soundE a ok h1) (.inl ⟨rfl, soundE b ok h2⟩)
      · exact or_pe (soundE a ok h1) (.inr (soundE b ok h2))
    · cases h
  | .not a, X, c, ok, e, h => by
    unfold chkE at h
    split at h
    · have ha := soundE a ok h
      refine ⟨pe_imp (pe_not ha.1) notV_imp, pt_imp (pt_not ha.2) fun σ H Q q => ?_⟩
      obtain ⟨fr, F, R, h0, q, k⟩ := q
      exact semT1 h0 q fun b fr1 H1 F1 hR s => k _ fr1 H1 F1 hR s
    · cases h
  | .ife t a b, X, c, ok, e, h => by
    unfold chkE at h
    split at h
    · obtain ⟨h12, h3⟩ := and_of h
      obtain ⟨h1, h2⟩ := and_of h12
      exact no_pt (pe_imp (pe_ifExp (soundE t ok h1).2 (soundE a ok h2).1 (soundE b ok h3).1) ife_imp) fun _ _ z => z
    · cases h
  | .tup es, X, c, ok, e, h => by
    unfold chkE at h
    split at h
    · exact no_pt (pe_imp (pe_tupF (pz_of (soundL es ok h))) tup_imp) fun _ _ z => z
    · cases h
  | .lst es, X, c, ok, e, h => by
    unfold chkE at h
    split at h
    · exact no_pt (pe_imp (pe_lst (pz_of (soundL es ok h))) lst_imp) fun _ _ z => z
    · cases h
  | .call f es, X, c, ok, e, h => by
    unfold chkE at h
    split at h
    · obtain ⟨h1234, h5⟩ := and_of h
      obtain ⟨h123, h4⟩ := and_of h1234
      obtain ⟨h12, h3⟩ := and_of h123
      obtain ⟨h1, h2⟩ := and_of h12
      rename_i x p args pos
      cases args with
      | nil => cases h4
      | cons e l =>
        have hc := call_sound (p := p) (pos := pos) ok (of_decide_eq_true h1) h2 h3 (soundL es ok h5)
        exact ⟨hc, truth_sound hc rfl fun fr R z => z⟩
    · cases h
  | .lc os t it co a, X, c, ok, e, h => by
    unfold chkE at h
    split at h
    · rename_i elt tg iter ifs scope pos
      obtain ⟨h123456, h7⟩ := and_of h
      obtain ⟨h12345, h6⟩ := and_of h123456
      obtain ⟨h1234, h5⟩ := and_of h12345
      obtain ⟨h123, h4⟩ := and_of h1234
      obtain ⟨h12, h3⟩ := and_of h123
      obtain ⟨h1, h2⟩ := and_of h12
      have eo : (ownOf c os).map (·.2) = os := by
        unfold ownOf
        rw [List.map_map]
        exact List.map_id' os
      have := pe_lc (elt := elt) (te := semE X (wE C a)) (tt := semT X (wO C co)) (g := gOf X.K t) (pos := pos) (own := ownOf c os) ok.calm (by rw [ok.N]; exact ok.nd) (soundI it ok h4 (tg := tg)) (blkOk_by (by rw [ok.N, ok.sc]; exact h1))
        (fun s H D cl fp => by have := chkT_sound (ok.blk (scope := scope) (s := s) (H := H) (cl := cl) (a := D) (fp := fp)) h5; exact this)
        (fun s H D cl fp => soundO co (ok.blk (scope := scope) (s := s) (H := H) (cl := cl) (a := D) (fp := fp)) h6)
        (fun s H D cl fp => (soundE a (ok.blk (scope := scope) (s := s) (H := H) (cl := cl) (a := D) (fp := fp)) h7).1) (setIter_of h3)
      rw [eo] at this
      exact no_pt (pe_imp this (lc_imp h2)) fun _ _ z => z
    · cases h
  | .ssc os t it co a, X, c, ok, e, h => by
    unfold chkE at h
    split at h
    · rename_i x p elt tg iter ifs scope p2 p3
      obtain ⟨g12345678, h9⟩ := and_of h
      obtain ⟨g1234567, h8⟩ := and_of g12345678
      obtain ⟨g123456, h7⟩ := and_of g1234567
      obtain ⟨g12345, h6⟩ := and_of g123456
      obtain ⟨g1234, h5⟩ := and_of g12345
      obtain ⟨g123, h4⟩ := and_of g1234
      obtain ⟨g12, h3⟩ := and_of g123
      obtain ⟨h1, h2⟩ := and_of g12
      have h1 := of_decide_eq_true h1
      subst h1
      have eo : (ownOf c os).map (·.2) = os := by
        unfold ownOf
        rw [List.map_map]
        exact List.map_id' os
      have := ssc_pe (p := p) (p2 := p2) (p3 := p3) (elt := elt) (te := semE X (wE C a)) (tt := semT X (wO C co)) (g := gOf X.K t) (own := ownOf c os) ok h2 (by rw [ok.N]; exact ok.nd) (soundI it ok h6 (tg := tg)) (blkOk_by (by rw [ok.N, ok.sc]; exact h3))
        (fun s H D cl fp => by have := chkT_sound (ok.blk (scope := scope) (s := s) (H := H) (cl := cl) (a := D) (fp := fp)) h7; exact this)
        (fun s H D cl fp => soundO co (ok.blk (scope := scope) (s := s) (H := H) (cl := cl) (a := D) (fp := fp)) h8)
        (fun s H D cl fp => (soundE a (ok.blk (scope := scope) (s := s) (H := H) (cl := cl) (a := D) (fp := fp)) h9).1) (setIter_of h5)
      rw [eo] at this
      exact no_pt (pe_imp this (ssc_imp h4)) fun _ _ z => z
    · cases h
theorem soundL : ∀ (es : CXs) {X : Cx} {c : Ctx} (ok : CtxOk C X c) {l : List Expr}, chkEs c es l = true → SEL C X es l
  | .nil, X, c, ok, l, h => by
    unfold chkEs at h
    split at h
    · trivial
    · cases h
  | .cons a r, X, c, ok, l, h => by
    unfold chkEs at h
    split at h
    · obtain ⟨h12, h3⟩ := and_of h
      obtain ⟨h1, h2⟩ := and_of h12
      exact ⟨h1, (soundE a ok h2).1, soundL r ok h3⟩
    · cases h
theorem soundO : ∀ (co : CO) {X : Cx} {c : Ctx} (ok : CtxOk C X c) {l : List Expr}, chkO c co l = true → PTs X l (semT X (wO C co))
  | .none, X, c, ok, l, h => by
    unfold chkO at h
    split at h
    · exact ⟨fun pins s σ H Q I q => pts_nil.run pins s σ H Q I (by
        obtain ⟨fr, F, R, h0, q, k⟩ := q
        exact k true fr H F q (Stp.refl h0))⟩
    · cases h
  | .some a, X, c, ok, l, h => by
    unfold chkO at h
    split at h
    · exact pts_one (soundE a ok h).2
    · cases h
theorem soundI : ∀ (it : CI) {X : Cx} {c : Ctx} (ok : CtxOk C X c) {tg e : Expr}, chkI c it tg e = true → PI X tg e (semI X (wI C it))
  | .seq a, X, c, ok, tg, e, h => by
    unfold chkI at h
    exact seqI_sound (soundE a ok h).1
  | .rng1 a, X, c, ok, tg, e, h => by
    unfold chkI at h
    split at h
    · obtain ⟨h123, h4⟩ := and_of h
      obtain ⟨h12, h3⟩ := and_of h123
      obtain ⟨h1, h2⟩ := and_of h12
      have h1 := of_decide_eq_true h1
      subst h1
      exact rng1_sound ok h2 h3 (soundE a ok h4).1
    · cases h
  | .rng2 a b, X, c, ok, tg, e, h => by
    unfold chkI at h
    split at h
    · obtain ⟨h12345, h6⟩ := and_of h
      obtain ⟨h1234, h5⟩ := and_of h12345
      obtain ⟨h123, h4⟩ := and_of h1234
      obtain ⟨h12, h3⟩ := and_of h123
      obtain ⟨h1, h2⟩ := and_of h12
      have h1 := of_decide_eq_true h1
      subst h1
      exact rng2_sound ok h2 h3 h4 (soundE a ok h5).1 (soundE b ok h6).1
    · cases h
  | .enum a, X, c, ok, tg, e, h => by
    unfold chkI at h
    split at h
    · obtain ⟨h1234, h5⟩ := and_of h
      obtain ⟨h123, h4⟩ := and_of h1234
      obtain ⟨h12, h3⟩ := and_of h123
      obtain ⟨h1, h2⟩ := and_of h12
      have h1 := of_decide_eq_true h1
      subst h1
      cases tg <;> first | (cases h3; done) | skip
      exact enum_sound ok h2 h4 (soundE a ok h5).1
    · cases h
  | .zip a b, X, c, ok, tg, e, h => by
    unfold chkI at h
    split at h
    · obtain ⟨h123456, h7⟩ := and_of h
      obtain ⟨h12345, h6⟩ := and_of h123456
      obtain ⟨h1234, h5⟩ := and_of h12345
      obtain ⟨h123, h4⟩ := and_of h1234
      obtain ⟨h12, h3⟩ := and_of h123
      obtain ⟨h1, h2⟩ := and_of h12
      have h1 := of_decide_eq_true h1
      subst h1
      cases tg <;> first | (cases h3; done) | skip
      exact zip_sound ok h2 h4 h5 (soundE a ok h6).1 (soundE b ok h7).1
    · cases h
end
end
end QL
set_option maxHeartbeats 2200000
/-! QR: statements: the def's start and what holds since -/
namespace QL
open PySem L2
/-- the start of a def's turn -/
structure Gh where
  F0 : Addr → Prop
  H0 : Hp
  ss : List Sl
  vs : List V
structure Ent (K : PySem.W.Frag) (g : Gh) (σ : Sg) (fr : Fr) (F : Addr → Prop) (H : Hp) : Prop where
  ok : FrOk K H F σ fr
  le : ∀ a, g.F0 a → F a
  new : ∀ a, F a → g.F0 a ∨ g.H0 a = none ∨ OwnF g.ss (g.vs.map some) a
  keep : ∀ a, g.H0 a ≠ none → ¬ Own g.ss (g.vs.map some) a → H a = g.H0 a
  alive : ∀ a, g.H0 a ≠ none → H a ≠ none
  own : ∀ a, Own fr σ a → g.H0 a = none ∨ Own g.ss (g.vs.map some) a
  ownF : ∀ a, OwnF fr σ a → g.H0 a = none ∨ OwnF g.ss (g.vs.map some) a
  bor : ∀ (i : Nat) (d : D), g.ss[i]? = some (.own true d) → ∃ (d' : D) (a : Addr), fr[i]? = some (.own true d') ∧ g.vs[i]? = some (.ref a) ∧ σ[i]? = some (some (.ref a))
  len : g.ss.length ≤ fr.length
/-- what is frozen stays -/
def Ext (F : Addr → Prop) (H : Hp) (F' : Addr → Prop) (H' : Hp) : Prop := (∀ a, F a → F' a) ∧ ∀ a, F a → H' a = H a
theorem Ext.refl {F : Addr → Prop} {H : Hp} : Ext F H F H := ⟨fun _ z => z, fun _ _ => rfl⟩
theorem Ext.trans {F F1 F2 : Addr → Prop} {H H1 H2 : Hp} (h : Ext F H F1 H1) (k : Ext F1 H1 F2 H2) : Ext F H F2 H2 := ⟨fun a z => k.1 a (h.1 a z), fun a z => (k.2 a (h.1 a z)).trans (h.2 a z)⟩
section
variable {K : PySem.W.Frag} {g : Gh} {σ σ' : Sg} {fr fr' : Fr} {F F' : Addr → Prop} {H H' : Hp}
theorem Stp.ext (h : FrOk K H F σ fr) (s : Stp K σ fr F H fr' F' H') : Ext F H F' H' := ⟨s.le, s.fkeep h⟩
theorem Ent.step (h : Ent K g σ fr F H) (s : Stp K σ fr F H fr' F' H') : Ent K g σ fr' F' H' where
  ok := s.ok
  le := fun a z => s.le a (h.le a z)
  new := fun a z => by
    rcases s.new a z with z | z | z
    · exact h.new a z
    · refine .inr (.inl ?_)
      cases q : g.H0 a with
      | none => rfl
      | some o => exact absurd z (h.alive a (by rw [q]; simp))
    · rcases h.ownF a z with z | z
      · exact .inr (.inl z)
      · exact .inr (.inr z)
  keep := fun a z n => by
    rw [s.keep a (h.alive a z) fun o => ?_, h.keep a z n]
    rcases h.own a o with y | y
    · exact z y
    · exact n y
  alive := fun a z => s.alive a (h.alive a z)
  own := fun a z => h.own a (s.subO z)
  ownF := fun a z => h.ownF a (s.subF z)
  bor := fun i d e => by
    obtain ⟨d', a, e1, e2, e3⟩ := h.bor i d e
    obtain ⟨d2, e4⟩ := s.bor i d' e1
    exact ⟨d2, a, e4, e2, e3⟩
  len := by
    have h1 := h.ok.len
    have h2 := s.ok.len
    have h3 := h.len
    omega
theorem Ent.asg (h : Ent K g σ fr F H) (ok : FrOk K H F σ' fr') {is : List Nat} (as : Asg σ fr is σ' fr') : Ent K g σ' fr' F H where
  ok := ok
  le := h.le
  new := h.new
  keep := h.keep
  alive := h.alive
  own := fun a ⟨i, b, d, e1, e2⟩ => by
    by_cases hi : i ∈ is
    · obtain ⟨x, e⟩ := as.inn i hi _ e1
      cases e
    · rw [(as.out i hi).2] at e1
      rw [(as.out i hi).1] at e2
      exact h.own a ⟨i, b, d, e1, e2⟩
  ownF := fun a ⟨i, d, e1, e2⟩ => by
    by_cases hi : i ∈ is
    · obtain ⟨x, e⟩ := as.inn i hi _ e1
      cases e
    · rw [(as.out i hi).2] at e1
      rw [(as.out i hi).1] at e2
      exact h.ownF a ⟨i, d, e1, e2⟩
  bor := fun i d e => by
    obtain ⟨d', a, e1, e2, e3⟩ := h.bor i d e
    by_cases hi : i ∈ is
    · exact absurd e1 (as.nobor i hi d')
    · exact ⟨d', a, by rw [(as.out i hi).2]; exact e1, e2, by rw [(as.out i hi).1]; exact e3⟩
  len := by rw [as.len.2]; exact h.len
/-- a new object of its own is stored -/
theorem FrOk.putOwn (ok : FrOk K H F σ fr) {i : Nat} {a : Addr} {d : D} (hi : i < fr.length) (nF : ¬ F a) (no : ¬ Own fr σ a) (r : OwnRel K H F a d) : FrOk K H F (σ.set i (some (.ref a))) (fr.set i (.own false d)) := by
  have hi' : i < σ.length := by rw [← ok.len]; exact hi
  refine ⟨ok.fh, fun j x e => ?_, fun j b x e => ?_, fun j k c b b' x y e1 e2 s1 s2 => ?_, by rw [List.length_set, List.length_set]; exact ok.len⟩
  · by_cases hj : i = j
    · subst hj
      rw [List.getElem?_set_self hi] at e
      cases e
    · rw [get_set_ne hj] at e
      rw [List.getElem?_set_ne hj]
      exact ok.val j x e
  · by_cases hj : i = j
    · subst hj
      rw [List.getElem?_set_self hi] at e
      cases e
      exact ⟨a, List.getElem?_set_self hi', nF, r⟩
    · rw [get_set_ne hj] at e
      rw [List.getElem?_set_ne hj]
      exact ok.own j b x e
  · by_cases h1 : i = j
    · subst h1
      rw [List.getElem?_set_self hi'] at s1
      cases s1
      by_cases h2 : i = k
      · exact h2
      · rw [get_set_ne h2] at e2
        rw [List.getElem?_set_ne h2] at s2
        exact absurd ⟨k, b', y, e2, s2⟩ no
    · rw [get_set_ne h1] at e1
      rw [List.getElem?_set_ne h1] at s1
      by_cases h2 : i = k
      · subst h2
        rw [List.getElem?_set_self hi'] at s2
        cases s2
        exact absurd ⟨j, b, x, e1, s1⟩ no
      · rw [get_set_ne h2] at e2
        rw [List.getElem?_set_ne h2] at s2
        exact ok.inj j k c b b' x y e1 e2 s1 s2
theorem Ent.putOwn (h : Ent K g σ fr F H) {i : Nat} {a : Addr} {d : D} (hi : i < fr.length) (nl : ∀ d, fr[i]? ≠ some (.own true d)) (nF : ¬ F a) (no : ¬ Own fr σ a) (r : OwnRel K H F a d) (h0 : g.H0 a = none) : Ent K g (σ.set i (some (.ref a))) (fr.set i (.own false d)) F H where
  ok := h.ok.putOwn hi nF no r
  le := h.le
  new := h.new
  keep := h.keep
  alive := h.alive
  own := fun c ⟨j, b, x, e1, e2⟩ => by
    by_cases hj : i = j
    · subst hj
      rw [List.getElem?_set_self (by rw [← h.ok.len]; exact hi)] at e2
      cases e2
      exact .inl h0
    · rw [get_set_ne hj] at e1
      rw [List.getElem?_set_ne hj] at e2
      exact h.own c ⟨j, b, x, e1, e2⟩
  ownF := fun c ⟨j, x, e1, e2⟩ => by
    by_cases hj : i = j
    · subst hj
      rw [List.getElem?_set_self (by rw [← h.ok.len]; exact hi)] at e2
      cases e2
      exact .inl h0
    · rw [get_set_ne hj] at e1
      rw [List.getElem?_set_ne hj] at e2
      exact h.ownF c ⟨j, x, e1, e2⟩
  bor := fun j x e => by
    obtain ⟨d', a', e1, e2, e3⟩ := h.bor j x e
    have hj : i ≠ j := fun z => nl d' (z ▸ e1)
    exact ⟨d', a', by rw [get_set_ne hj]; exact e1, e2, by rw [List.getElem?_set_ne hj]; exact e3⟩
  len := by rw [List.length_set]; exact h.len
theorem fg1_len : ∀ {fr : Fr} {i : Nat}, (fg1 fr i).length = fr.length
  | [], _ => rfl
  | _ :: _, 0 => rfl
  | _ :: r, i + 1 => by simp [fg1, fg1_len (fr := r)]
theorem fg1_sub : ∀ {fr : Fr} {i j : Nat} {s : Sl}, (fg1 fr i)[j]? = some s → s ≠ .none → fr[j]? = some s
  | [], _, _, _, e, _ => by simp [fg1] at e
  | x :: r, 0, 0, s, e, n => by
    simp only [fg1, List.getElem?_cons_zero, Option.some.injEq] at e
    subst e
    cases x with
    | none => rfl
    | val d => exact (n rfl).elim
    | own b d => cases b with
      | true => rfl
      | false => exact (n rfl).elim
  | x :: r, 0, j + 1, s, e, n => e
  | x :: r, i + 1, 0, s, e, n => e
  | x :: r, i + 1, j + 1, s, e, n => by
    simp only [fg1, List.getElem?_cons_succ] at e ⊢
    exact fg1_sub e n
theorem fg1_bor : ∀ {fr : Fr} {i j : Nat} {d : D}, fr[j]? = some (.own true d) → (fg1 fr i)[j]? = some (.own true d)
  | [], _, _, _, e => by simp at e
  | x :: r, 0, 0, d, e => by
    simp only [fg1, List.getElem?_cons_zero, Option.some.injEq] at e ⊢
    subst e
    rfl
  | x :: r, 0, j + 1, d, e => e
  | x :: r, i + 1, 0, d, e => e
  | x :: r, i + 1, j + 1, d, e => by
    simp only [fg1, List.getElem?_cons_succ] at e ⊢
    exact fg1_bor e
theorem Ent.fg1 (h : Ent K g σ fr F H) (i : Nat) : Ent K g σ (fg1 fr i) F H where
  ok := ⟨h.ok.fh, fun j d e => h.ok.val j d (fg1_sub e fun z => by cases z), fun j b d e => h.ok.own j b d (fg1_sub e fun z => by cases z), fun j k a b c d e e1 e2 => h.ok.inj j k a b c d e (fg1_sub e1 fun z => by cases z) (fg1_sub e2 fun z => by cases z), by rw [fg1_len]; exact h.ok.len⟩
  le := h.le
  new := h.new
  keep := h.keep
  alive := h.alive
  own := fun a ⟨j, b, d, e1, e2⟩ => h.own a ⟨j, b, d, fg1_sub e1 (fun z => by cases z), e2⟩
  ownF := fun a ⟨j, d, e1, e2⟩ => h.ownF a ⟨j, d, fg1_sub e1 (fun z => by cases z), e2⟩
  bor := fun j d e => by
    obtain ⟨d', a, e1, e2, e3⟩ := h.bor j d e
    exact ⟨d', a, fg1_bor e1, e2, e3⟩
  len := by rw [fg1_len]; exact h.len
theorem Ent.fgt (h : Ent K g σ fr F H) : ∀ (is : List Nat), Ent K g σ (fgtF fr is) F H := fun is => by
  induction is generalizing fr with
  | nil => exact h
  | cons i is ih => exact ih (h.fg1 i)
theorem Ent.h0 (h : Ent K g σ fr F H) {a : Addr} (e : H a = none) : g.H0 a = none := by
  cases q : g.H0 a with
  | none => rfl
  | some o => exact absurd e (h.alive a (by rw [q]; simp))
/-- the end of the turn -/
theorem Ent.post (h : Ent K g σ fr F H) {v : V} {r : Rf} (outs : Fr) (ho : ∀ (i : Nat) (d : D), fr[i]? = some (.own true d) → outs[i]? = some (.own true d)) (hl : outs.length = fr.length)
    (hr : match r with
    | .val d => Rep K H F v d
    | .tmp d => ∃ a, v = .ref a ∧ ¬ F a ∧ OwnRel K H F a d ∧ (g.H0 a = none ∨ OwnF g.ss (g.vs.map some) a) ∧ ∀ (i : Nat) (d : D), fr[i]? = some (.own true d) → σ[i]? ≠ some (some (.ref a))
    | .bor _ => False) : CallPost K g.vs g.ss g.F0 g.H0 r (outs.take g.ss.length) v F H where
  fh := h.ok.fh
  le := h.le
  new := h.new
  keep := h.keep
  alive := h.alive
  back := fun i d e => by
    obtain ⟨d', a, e1, e2, e3⟩ := h.bor i d e
    have hi : i < g.ss.length := (List.getElem?_eq_some_iff.mp e).1
    obtain ⟨a', e4, nf, rr⟩ := h.ok.own i true d' e1
    rw [e3] at e4; cases e4
    exact ⟨d', a, by rw [List.getElem?_take_of_lt hi]; exact ho i d' e1, e2, nf, rr⟩
  len := by
    have := h.len
    rw [List.length_take]; omega
  res := by
    cases r with
    | val d => exact hr
    | tmp d =>
      obtain ⟨a, e1, e2, e3, e4, e5⟩ := hr
      refine ⟨a, e1, e2, e3, e4, fun i d e z => ?_⟩
      obtain ⟨d', a', f1, f2, f3⟩ := h.bor i d e
      rw [f2] at z; cases z
      exact e5 i d' f1 f3
    | bor => exact hr
end
/-- the wishes as ends -/
structure EnOk (K : PySem.W.Frag) (g : Gh) (F : Addr → Prop) (H : Hp) (E : En) (D : Ends) : Prop where
  nx : ∀ fr' σ' F' H', E.nx fr' → Ent K g σ' fr' F' H' → Ext F H F' H' → D.nx σ' H'
  bk : ∀ fr' σ' F' H', E.bk fr' → Ent K g σ' fr' F' H' → Ext F H F' H' → D.bk σ' H'
  ct : ∀ fr' σ' F' H', E.ct fr' → Ent K g σ' fr' F' H' → Ext F H F' H' → D.ct σ' H'
  rt : ∀ r fr' v F' H', E.rt r fr' → CallPost K g.vs g.ss g.F0 g.H0 r (fr'.take g.ss.length) v F' H' → D.rt v H'
theorem EnOk.weaken {K : PySem.W.Frag} {g : Gh} {F F1 : Addr → Prop} {H H1 : Hp} {E : En} {D : Ends} (h : EnOk K g F H E D) (x : Ext F H F1 H1) : EnOk K g F1 H1 E D :=
  ⟨fun a b c d e1 e2 e3 => h.nx a b c d e1 e2 (x.trans e3), fun a b c d e1 e2 e3 => h.bk a b c d e1 e2 (x.trans e3), fun a b c d e1 e2 e3 => h.ct a b c d e1 e2 (x.trans e3), h.rt⟩
def semS (X : Cx) (g : Gh) (w : Fr → En → Prop) : TS := fun D σ H => ∃ (fr : Fr) (F : Addr → Prop) (E : En), Ent X.K g σ fr F H ∧ w fr E ∧ EnOk X.K g F H E D
theorem ps_imp {X : Cx} {s : Stmt} {t t' : TS} (h : PS X s t) (i : ∀ D σ H, t' D σ H → t D σ H) : PS X s t' := ⟨fun pins s σ H D I q => h.run pins s σ H D I (i D σ H q)⟩
theorem pss_imp {X : Cx} {s : List Stmt} {t t' : TS} (h : PSs X s t) (i : ∀ D σ H, t' D σ H → t D σ H) : PSs X s t' := ⟨fun pins s σ H D I q => h.run pins s σ H D I (i D σ H q)⟩
section
variable {C : WC} {X : Cx} {c : Ctx} {g : Gh}
theorem sw_of (ok : CtxOk C X c) {tg e : Expr} {n : Nat} (h : noSwap c tg e = true) : swapsWith e (some tg) n X.env = pure false := by
  unfold noSwap at h
  cases es : scopeOf e with
  | none => exact swaps_of (by cases e <;> first | rfl | cases es)
  | some s =>
    rw [es] at h
    have key : ∀ t p, tg = .Name t p → swapsWith e (some tg) n X.env = pure false := fun t p et => by
      subst et
      have hk : X.env.kindOf t = c.sc.names.lookup t := by
        show X.env.scope.names.lookup t = _
        rw [ok.sc]
      simp only [Bool.not_eq_true', Bool.and_eq_false_iff, decide_eq_false_iff_not] at h
      have : (X.env.blockKind == .function && X.env.kindOf t == some .local && p.line == e.pos.line && !(s.names.any fun (n, k) => n == t && (k == .local || k == .cell))) = false := by
        rcases h with (h | h) | h
        · have : (X.env.kindOf t == some .local) = false := by
            rw [hk]
            simpa using h
          simp [this]
        · simp only [h, Bool.and_false, Bool.false_and]
        · rw [h]
          simp
      cases e <;> first | (cases es; done) | skip
      all_goals
        cases es
        unfold swapsWith
        simp only [this]
        try rfl
    cases tg with
    | Name t p => exact key t p rfl
    | _ => cases e <;> first | (cases es; done) | rfl
theorem sso_of (ok : CtxOk C X c) {tg e : Expr} {n : Nat} (h : noSwap c tg e = true) : swapsWithSole [tg] e n X.env = pure false := sw_of ok h
theorem st_of {tg e : Expr} (h : (!(isTupE tg && isTupE e)) = true) (hc : ∀ l p, tg ≠ .List l p) : swappedStores [tg] e X.env = pure none := by
  cases tg with
  | Tuple =>
    cases e <;> first | (cases h; done) | rfl
  | List => exact (hc _ _ rfl).elim
  | _ => rfl
end
end QL
set_option maxHeartbeats 2200000
/-! QS: the statements one by one -/
namespace QL
open PySem L2
section
variable {C : WC} {X : Cx} {c : Ctx} {g : Gh}
theorem isTup_tg {t : CT} {tg : Expr} (h : chkT c t tg = true) : ∀ l p, tg ≠ .List l p := by
  intro l p e
  subst e
  cases t <;> cases h
theorem asg_one {tg : Expr} (hs : noStar tg = true) : (assignEach [tg] X.env).map (·.2) = [assign tg X.env] := by
  rw [assigns_of fun e he => by cases List.mem_singleton.mp he; exact hs]
  rfl
/-- a value is stored under a target -/
theorem put_ok {t : CT} {fr fr1 : Fr} {F F1 : Addr → Prop} {H H1 : Hp} {σ : L2.St} {E : En} {D : Ends} {r : Rf} {v : V} (ent : Ent X.K g σ fr F H) (k : EnOk X.K g F H E D) (s : Stp X.K σ fr F H fr1 F1 H1)
    (h : match r, t with
      | .tmp d, .n i => ∃ fr2, putSl fr1 i (.own false d) = some fr2 ∧ E.nx fr2
      | r, t => match frz fr1 r with
        | some (d, fr2) => ∃ fr3, asgT fr2 t d = some fr3 ∧ E.nx fr3
        | none => False) (o : RfOk X.K σ fr1 H1 F1 v r) (n : RfNew H v r) : gOf X.K t v σ H1 D.nx := by
  have gen : (match frz fr1 r with
        | some (d, fr2) => ∃ fr3, asgT fr2 t d = some fr3 ∧ E.nx fr3
        | none => False) → gOf X.K t v σ H1 D.nx := fun h => by
    cases e1 : frz fr1 r with
    | none => rw [e1] at h; exact h.elim
    | some p =>
      obtain ⟨d, fr2⟩ := p
      rw [e1] at h
      obtain ⟨fr3, e2, h⟩ := h
      obtain ⟨F2, s2, rv⟩ := Stp.freeze ent.ok s o n e1
      refine asg_ok s2.ok rv e2 fun σ' ok' as => k.nx _ _ _ _ h ((ent.step s2).asg ok' as) (s2.ext ent.ok)
  cases r with
  | val d => exact gen h
  | bor i => exact gen h
  | tmp d =>
    cases t with
    | t is => exact gen h
    | t2 i is => exact gen h
    | n i =>
      obtain ⟨fr2, e1, h⟩ := h
      obtain ⟨rfl, hi, nl⟩ := putSl_eq e1
      obtain ⟨a, rfl, nF, no, r⟩ := o
      exact k.nx _ _ _ _ h ((ent.step s).putOwn hi nl nF no r (ent.h0 (n a rfl))) (s.ext ent.ok)
theorem set_sound {t : CT} {a : CX} {tg e : Expr} {pos : Pos} (ok : CtxOk C X c) (ht : chkT c t tg = true) (hn : noSwap c tg e = true) (hs : noStar tg = true) (hT : (!(isTupE tg && isTupE e)) = true) (he : PE X e (semE X (wE C a))) : PS X (.Assign [tg] e pos) (semS X g (wS C (.set t a))) := by
  refine ps_imp (ps_asg he (chkT_sound ok ht) (sso_of ok hn) (st_of hT (isTup_tg ht)) (asg_one hs)) fun D σ H q => ?_
  obtain ⟨fr, F, E, ent, q, k⟩ := q
  exact sem1 ent.ok q fun r fr1 v H1 F1 hR s o n => put_ok ent k s hR o n
theorem setLc_imp {i : Nat} {a : CX} {D : Ends} {σ : L2.St} {H : Hp} (q : semS X g (wS C (.setLc i a)) D σ H) : tAsg (semE X (wE C a)) (gName i) D σ H := by
  obtain ⟨fr, F, E, ent, q, k⟩ := q
  refine sem1 ent.ok q fun r fr1 v H1 F1 hR s o n => ?_
  cases r with
  | val d => exact hR.elim
  | bor i => exact hR.elim
  | tmp d => exact put_ok (t := .n i) ent k s hR o n
theorem tLc_le {wi : TI} {g : TG} {tt : TT} {te t' : TE} {os : List Nat} {i : Nat} {D : Ends} {σ : L2.St} {H : Hp} (h : ∀ σ H Q, t' σ H Q → tLc wi g tt te os σ H Q) (q : tAsg t' (gName i) D σ H) : tAsg (tLc wi g tt te os) (gName i) D σ H := h _ _ _ q
theorem setIx_sound {o i a : CX} {eo ei e : Expr} {p pos : Pos} (ok : CtxOk C X c) (hn : noComp e = true) (hx : noSlice ei = true) (ho : PE X eo (semE X (wE C o))) (hi : PE X ei (semE X (wE C i))) (ha : PE X e (semE X (wE C a))) : PS X (.Assign [.Subscript eo ei p] e pos) (semS X g (wS C (.setIx o i a))) := by
  refine ps_imp (ps_asg ha (pg_sub ho hi set_list (fun v => by cases ei <;> first | rfl | cases hx)) (show swapsWith e (some (.Subscript eo ei p)) pos.line X.env = pure false from swaps_of hn) rfl rfl) fun D σ H q => ?_
  obtain ⟨fr, F, E, ent, q, k⟩ := q
  refine sem1 ent.ok q fun r fr1 v H1 F1 hR s o1 n => ?_
  cases e1 : frz fr1 r with
  | none => rw [e1] at hR; exact hR.elim
  | some p =>
    obtain ⟨d, fr2⟩ := p
    rw [e1] at hR
    obtain ⟨F2, s2, rv⟩ := Stp.freeze ent.ok s o1 n e1
    refine sem1 s2.ok hR fun ro fr3 x H3 F3 hR s3 ox _ => ?_
    refine sem1 s3.ok hR fun ri fr4 y H4 F4 hR s4 oy _ => ?_
    have ox := ox.step s3.ok s4
    have s24 := s3.trans s2.ok s4
    have rv := rv.mono s24.le (s24.fkeep s2.ok)
    cases ro with
    | val _ => exact hR.elim
    | tmp _ => exact hR.elim
    | bor kk =>
    cases e4 : deref fr4 ri with
    | none => rw [e4] at hR; exact hR.elim
    | some dj =>
      rw [e4] at hR
      cases dj with
      | non => exact hR.elim
      | bl _ => exact hR.elim
      | str _ => exact hR.elim
      | tup _ => exact hR.elim
      | lst _ => exact hR.elim
      | frl _ => exact hR.elim
      | dct _ _ => exact hR.elim
      | set _ => exact hR.elim
      | int j =>
      have ey := (oy.now s4.ok e4).int
      subst ey
      cases e5 : fr4[kk]? with
      | none => simp only [e5] at hR
      | some sl =>
        simp only [e5] at hR
        cases sl with
        | none => exact hR.elim
        | val _ => exact hR.elim
        | own b dl =>
        cases dl with
        | non => exact hR.elim
        | bl _ => exact hR.elim
        | str _ => exact hR.elim
        | tup _ => exact hR.elim
        | int _ => exact hR.elim
        | frl _ => exact hR.elim
        | dct _ _ => exact hR.elim
        | set _ => exact hR.elim
        | lst xs =>
        obtain ⟨m, em, hR⟩ := hR
        obtain ⟨a', f1, nf, us, f2, f3⟩ := s4.ok.own kk b _ e5
        have := ox.1
        rw [f1] at this
        cases this
        refine ⟨a', us, j, m, rfl, rfl, f2, by rw [f3.length]; exact em, ?_⟩
        have hF : ∀ c, F4 c → (upd H4 a' (HO.lst (us.set m v))) c = H4 c := fun c f => upd_ne fun z => nf (z ▸ f)
        have s5 := Stp.setOwn s4.ok (d' := .lst (xs.set m d)) (o := .lst (us.set m v)) e5 f1 ⟨us.set m v, upd_same, (f3.set m rv).mono (fun _ z => z) hF⟩
        have st := (s2.trans ent.ok s24).trans ent.ok s5
        exact k.nx _ _ _ _ hR (ent.step st) (st.ext ent.ok)
theorem ex_sound {a : CX} {e : Expr} {pos : Pos} (hn : noComp e = true) (ha : PE X e (semE X (wE C a))) : PS X (.Expr e pos) (semS X g (wS C (.ex a))) := by
  refine ps_imp (ps_expr ha (swaps_of hn)) fun D σ H q => ?_
  obtain ⟨fr, F, E, ent, q, k⟩ := q
  exact sem1 ent.ok q fun r fr1 v H1 F1 hR s o n => k.nx _ _ _ _ hR (ent.step s) (s.ext ent.ok)
theorem ret_sound {a : CX} {e : Expr} {pos : Pos} (ha : PE X e (semE X (wE C a))) : PS X (.Return (some e) pos) (semS X g (wS C (.ret a))) := by
  refine ps_imp (ps_ret ha) fun D σ H q => ?_
  obtain ⟨fr, F, E, ent, q, k⟩ := q
  refine sem1 ent.ok q fun r fr1 v H1 F1 hR s o n => ?_
  have e1 := ent.step s
  cases r with
  | val d => exact k.rt _ _ _ _ _ hR (e1.post fr1 (fun _ _ z => z) rfl o)
  | tmp d =>
    obtain ⟨a, rfl, nF, no, r⟩ := o
    exact k.rt _ _ _ _ _ hR (e1.post fr1 (fun _ _ z => z) rfl ⟨a, rfl, nF, r, .inl (ent.h0 (n a rfl)), fun i d f1 f2 => no ⟨i, true, d, f1, f2⟩⟩)
  | bor i =>
    cases e2 : fr1[i]? with
    | none => simp only [e2] at hR
    | some sl =>
      simp only [e2] at hR
      cases sl with
      | none => exact hR.elim
      | val d =>
        obtain ⟨v', f1, f2⟩ := s.ok.val i d e2
        have := o.1
        rw [f1] at this; cases this
        exact k.rt _ _ _ _ _ hR (e1.post fr1 (fun _ _ z => z) rfl f2)
      | own b d =>
        cases b with
        | true => exact hR.elim
        | false =>
          obtain ⟨a, f1, nF, f2⟩ := s.ok.own i false d e2
          have := o.1
          rw [f1] at this; cases this
          refine k.rt _ _ _ _ _ hR (e1.post (fr1.set i .none) (fun j x z => ?_) (List.length_set ..) ⟨a, rfl, nF, f2, e1.ownF a ⟨i, d, e2, f1⟩, fun j x g1 g2 => ?_⟩)
          · have hj : i ≠ j := fun y => by subst y; rw [e2] at z; cases z
            rw [get_set_ne hj]; exact z
          · have := s.ok.inj i j a false true d x e2 g1 f1 g2
            subst this
            rw [e2] at g1; cases g1
theorem retN_sound {pos : Pos} : PS X (.Return none pos) (semS X g (wS C .retN)) := by
  refine ps_imp ps_retN fun D σ H q => ?_
  obtain ⟨fr, F, E, ent, q, k⟩ := q
  exact k.rt _ _ _ _ _ q (ent.post fr (fun _ _ z => z) rfl .non)
theorem augP {i : Nat} {d : D} {fr : Fr} {F : Addr → Prop} {H : Hp} {σ : L2.St} {v : V} (ok : FrOk X.K H F σ fr) {x : D} (e : fr[i]? = some (.val x)) (r : Rep X.K H F v d) : FrOk X.K H F (σ.set i (some v)) (fr.set i (.val d)) ∧ Asg σ fr [i] (σ.set i (some v)) (fr.set i (.val d)) := by
  have hi := (List.getElem?_eq_some_iff.mp e).1
  refine ⟨ok.put hi r, fun j hj => ?_, fun j hj s es => ?_, fun j hj d' z => ?_, by rw [List.length_set, List.length_set]; exact ⟨rfl, rfl⟩⟩
  · have hj : i ≠ j := fun z => hj (z ▸ List.mem_singleton.mpr rfl)
    exact ⟨List.getElem?_set_ne hj, get_set_ne hj⟩
  · cases List.mem_singleton.mp hj
    rw [List.getElem?_set_self hi] at es
    cases es
    exact ⟨d, rfl⟩
  · cases List.mem_singleton.mp hj
    rw [e] at z; cases z
theorem live_val {σ : L2.St} {fr fr1 : Fr} {F F1 : Addr → Prop} {H H1 : Hp} {i : Nat} {x : D} (s : Stp X.K σ fr F H fr1 F1 H1) (e : fr[i]? = some (.val x)) : ∃ y, fr1[i]? = some (.val y) := by
  obtain ⟨s', e1, n1⟩ := s.live i _ e (fun z => by cases z)
  cases s' with
  | none => exact (n1 rfl).elim
  | val y => exact ⟨y, e1⟩
  | own b d =>
    obtain ⟨d0, z⟩ := s.sub i b d e1
    rw [e] at z; cases z
theorem aug_sound {i : Nat} {o : Op} {b : Operator} {a : CX} {tg e : Expr} {pos : Pos} (ok : CtxOk C X c) (hc : chkName c i tg = true) (hb : (o = .add ∧ b = .Add) ∨ (o = .sub ∧ b = .Sub)) (ha : PE X e (semE X (wE C a))) : PS X (.AugAssign tg b e pos) (semS X g (wS C (.aug i o a))) := by
  cases tg <;> first | (cases hc; done) | skip
  rename_i x p
  obtain ⟨h1, h2⟩ := and_of hc
  obtain ⟨l1, l2⟩ := ok.loc h2
  have hi : X.N[i]? = some x := by rw [ok.N]; exact of_decide_eq_true h1
  have hN : X.N.Nodup := by rw [ok.N]; exact ok.nd
  have key : ∀ {f : Int → Int → Int} (D : Ends) (σ : L2.St) (H : Hp), augF o = some f → semS X g (wS C (.aug i o a)) D σ H → tAug i (semE X (wE C a)) (ipI f) D σ H := fun {f} D σ H hf q => by
    obtain ⟨fr, F, E, ent, q, k⟩ := q
    cases e1 : fr[i]? with
    | none => simp only [wS, e1] at q
    | some sl =>
      simp only [wS, e1, hf] at q
      cases sl with
      | none => exact q.elim
      | own b d => exact q.elim
      | val d =>
        cases d with
        | int x =>
          obtain ⟨v, e2, rx⟩ := ent.ok.val i _ e1
          cases rx
          refine ⟨_, e2, sem1 ent.ok q fun r fr1 w H1 F1 hR s o n => ?_⟩
          cases e3 : deref fr1 r with
          | none => simp only [e3] at hR
          | some d =>
            simp only [e3] at hR
            cases d with
            | int y =>
              have := (o.now s.ok e3).int
              subst this
              obtain ⟨z, e4⟩ := live_val s e1
              obtain ⟨ok', as⟩ := augP (v := .int (f x y)) (d := .int (f x y)) s.ok e4 (.int _)
              exact ⟨x, y, rfl, rfl, k.nx _ _ _ _ hR ((ent.step s).asg ok' as) (s.ext ent.ok)⟩
            | _ => exact hR.elim
        | _ => exact q.elim
  rcases hb with ⟨rfl, rfl⟩ | ⟨rfl, rfl⟩
  · exact ps_imp (ps_aug hN hi l1 ha ip_add l2) fun D σ H q => key D σ H rfl q
  · exact ps_imp (ps_aug hN hi l1 ha ip_sub l2) fun D σ H q => key D σ H rfl q
end
end QL
set_option maxHeartbeats 2200000
/-! QT: loops, and the statements together -/
namespace QL
open PySem L2
section
variable {K : PySem.W.Frag} {σ : Sg} {fr fr' fr1 : Fr} {F F1 : Addr → Prop} {H H1 : Hp}
theorem deref_frz {r r' : Rf} {d : D} (e : frz fr r = some (d, fr')) : deref fr r = some d ∧ deref fr' r' = deref fr r' := by
  cases r with
  | val x => cases e; exact ⟨rfl, rfl⟩
  | tmp x => cases e; exact ⟨rfl, rfl⟩
  | bor i =>
    unfold frz at e
    cases e1 : fr[i]? with
    | none => simp [e1] at e
    | some s =>
      cases s with
      | none => simp [e1] at e
      | val x =>
        simp only [e1, Option.some.injEq, Prod.mk.injEq] at e
        obtain ⟨rfl, rfl⟩ := e
        exact ⟨by simp [deref, e1], rfl⟩
      | own b x =>
        cases b with
        | true => simp [e1] at e
        | false =>
          simp only [e1, Option.some.injEq, Prod.mk.injEq] at e
          obtain ⟨rfl, rfl⟩ := e
          refine ⟨by simp [deref, e1], ?_⟩
          cases r' with
          | val y => rfl
          | tmp y => rfl
          | bor j =>
            by_cases hj : i = j
            · subst hj
              have hi := (List.getElem?_eq_some_iff.mp e1).1
              simp [deref, e1, List.getElem?_set_self hi]
            · simp [deref, get_set_ne hj]
theorem itOf_seq {r r' : Rf} {sv : List D} {vs : List V} : itOf K (.seq r) sv vs = itOf K (.seq r') sv vs := by
  rcases sv with _ | ⟨d, _ | _⟩ <;> rcases vs with _ | ⟨v, _ | _⟩ <;> first | rfl | (cases d <;> rfl) | (cases d <;> cases v <;> rfl)
theorem itOf_enum {r r' : Rf} {sv : List D} {vs : List V} : itOf K (.enum r) sv vs = itOf K (.enum r') sv vs := by
  rcases sv with _ | ⟨d, _ | _⟩ <;> rcases vs with _ | ⟨v, _ | _⟩ <;> first | rfl | (cases d <;> rfl) | (cases d <;> cases v <;> rfl)
theorem itOf_zip {a b a' b' : Rf} {sv : List D} {vs : List V} : itOf K (.zip a b) sv vs = itOf K (.zip a' b') sv vs := by
  rcases sv with _ | ⟨d, _ | ⟨e, _ | _⟩⟩ <;> rcases vs with _ | ⟨v, _ | ⟨w, _ | _⟩⟩ <;> first | rfl | (cases d <;> rfl) | (cases d <;> cases v <;> rfl) | (cases d <;> cases e <;> rfl) | (cases d <;> cases e <;> cases v <;> rfl) | (cases d <;> cases e <;> cases v <;> cases w <;> rfl)
theorem frzSrc_ds {src src2 : Src} (e : frzSrc fr src = some (src2, fr')) : ∀ sv, srcDs fr' src2 = some sv → srcDs fr src = some sv ∧ (∀ xs, itemsOf src2 sv = some xs → itemsOf src sv = some xs) ∧ (∀ fr2, srcDs fr2 src2 = some sv) ∧ ∀ vs, itOf K src2 sv vs = itOf K src sv vs := by
  intro sv hs
  cases src with
  | rng lo n =>
    simp only [frzSrc, Option.some.injEq, Prod.mk.injEq] at e
    obtain ⟨rfl, rfl⟩ := e
    exact ⟨hs, fun _ z => z, fun _ => hs, fun _ => rfl⟩
  | seq r =>
    cases e1 : frz fr r with
    | none => simp [frzSrc, e1] at e
    | some p =>
      obtain ⟨d, fr2⟩ := p
      simp only [frzSrc, e1, Option.map_some, Option.some.injEq, Prod.mk.injEq] at e
      obtain ⟨rfl, rfl⟩ := e
      simp only [srcDs, deref, Option.map_some, Option.some.injEq] at hs
      subst hs
      refine ⟨by simp [srcDs, (deref_frz (r' := r) e1).1], fun _ z => z, fun _ => rfl, fun vs => ?_⟩
      exact itOf_seq
  | enum r =>
    cases e1 : frz fr r with
    | none => simp [frzSrc, e1] at e
    | some p =>
      obtain ⟨d, fr2⟩ := p
      simp only [frzSrc, e1, Option.map_some, Option.some.injEq, Prod.mk.injEq] at e
      obtain ⟨rfl, rfl⟩ := e
      simp only [srcDs, deref, Option.map_some, Option.some.injEq] at hs
      subst hs
      refine ⟨by simp [srcDs, (deref_frz (r' := r) e1).1], fun xs z => ?_, fun _ => rfl, fun vs => ?_⟩
      · cases d <;> first | exact z | cases z
      · exact itOf_enum
  | zip a b =>
    cases ht : (isTmp a || isTmp b) with
    | true => simp [frzSrc, ht] at e
    | false =>
      simp only [frzSrc, ht, Bool.false_eq_true, if_false] at e
      cases e1 : frz fr a with
      | none => simp [e1] at e
      | some p =>
        obtain ⟨d, fr2⟩ := p
        simp only [e1, Option.bind_some] at e
        cases e2 : frz fr2 b with
        | none => simp [e2] at e
        | some q =>
          obtain ⟨d2, fr3⟩ := q
          simp only [e2, Option.map_some, Option.some.injEq, Prod.mk.injEq] at e
          obtain ⟨rfl, rfl⟩ := e
          simp only [srcDs, deref, Option.bind_some, Option.map_some, Option.some.injEq] at hs
          subst hs
          have h1 := (deref_frz (r' := b) e1)
          have h2 := (deref_frz (r' := b) e2).1
          rw [h1.2] at h2
          refine ⟨by simp [srcDs, h1.1, h2], fun xs z => ?_, fun _ => rfl, fun vs => ?_⟩
          · cases d <;> cases d2 <;> first | exact z | cases z
          · exact itOf_zip
/-- a source of frozen values -/
def srcVal : Src → Prop
  | .seq (.val _) => True
  | .rng _ _ => True
  | .enum (.val _) => True
  | .zip (.val _) (.val _) => True
  | _ => False
theorem SrcOk.ext {σ' : Sg} {F' : Addr → Prop} {H' : Hp} {src : Src} {vs : List V} (hv : srcVal src) (h : SrcOk K σ fr H F src vs) (x : Ext F H F' H') : SrcOk K σ' fr' H' F' src vs := by
  cases src with
  | rng lo n => cases vs with
    | nil => trivial
    | cons => exact h.elim
  | seq r =>
    cases r <;> first | exact hv.elim | skip
    match vs, h with
    | [v], h => exact Rep.mono x.1 x.2 h
  | enum r =>
    cases r <;> first | exact hv.elim | skip
    match vs, h with
    | [v], h => exact Rep.mono x.1 x.2 h
  | zip a b =>
    cases a <;> first | exact hv.elim | skip
    cases b <;> first | exact hv.elim | skip
    match vs, h with
    | [v, w], h => exact ⟨Rep.mono x.1 x.2 h.1, Rep.mono x.1 x.2 h.2⟩
theorem frzSrc_ok (h0 : FrOk K H F σ fr) (s : Stp K σ fr F H fr1 F1 H1) {src src2 : Src} {vs : List V} (so : SrcOk K σ fr1 H1 F1 src vs) (n : SrcNew H src vs) (e : frzSrc fr1 src = some (src2, fr')) : ∃ F', Stp K σ fr F H fr' F' H1 ∧ SrcOk K σ fr' H1 F' src2 vs ∧ srcVal src2 := by
  cases src with
  | rng lo n =>
    simp only [frzSrc, Option.some.injEq, Prod.mk.injEq] at e
    obtain ⟨rfl, rfl⟩ := e
    exact ⟨F1, s, by cases vs <;> exact so, trivial⟩
  | seq r =>
    cases e1 : frz fr1 r with
    | none => simp [frzSrc, e1] at e
    | some p =>
      obtain ⟨d, fr2⟩ := p
      simp only [frzSrc, e1, Option.map_some, Option.some.injEq, Prod.mk.injEq] at e
      obtain ⟨rfl, rfl⟩ := e
      match vs, so, n with
      | [v], so, n =>
        obtain ⟨F2, s2, rv⟩ := Stp.freeze h0 s so n e1
        exact ⟨F2, s2, rv, trivial⟩
  | enum r =>
    cases e1 : frz fr1 r with
    | none => simp [frzSrc, e1] at e
    | some p =>
      obtain ⟨d, fr2⟩ := p
      simp only [frzSrc, e1, Option.map_some, Option.some.injEq, Prod.mk.injEq] at e
      obtain ⟨rfl, rfl⟩ := e
      match vs, so, n with
      | [v], so, n =>
        obtain ⟨F2, s2, rv⟩ := Stp.freeze h0 s so n e1
        exact ⟨F2, s2, rv, trivial⟩
  | zip a b =>
    cases ht : (isTmp a || isTmp b) with
    | true => simp [frzSrc, ht] at e
    | false =>
      have hn : ∀ {H : Hp} {v : V}, RfNew H v a ∧ RfNew H v b := fun {H v} => by
        cases a <;> cases b <;> first | exact ⟨trivial, trivial⟩ | cases ht
      simp only [frzSrc, ht, Bool.false_eq_true, if_false] at e
      cases e1 : frz fr1 a with
      | none => simp [e1] at e
      | some p =>
        obtain ⟨d, fr2⟩ := p
        simp only [e1, Option.bind_some] at e
        cases e2 : frz fr2 b with
        | none => simp [e2] at e
        | some q =>
          obtain ⟨d2, fr3⟩ := q
          simp only [e2, Option.map_some, Option.some.injEq, Prod.mk.injEq] at e
          obtain ⟨rfl, rfl⟩ := e
          match vs, so with
          | [v, w], so =>
            obtain ⟨F2, s2, rv⟩ := Stp.freeze s.ok (Stp.refl s.ok) so.1 hn.1 e1
            obtain ⟨F3, s3, rw⟩ := Stp.freeze s2.ok (Stp.refl s2.ok) (so.2.step s.ok s2) hn.2 e2
            exact ⟨F3, s.trans h0 (s2.trans s.ok s3), ⟨rv.mono s3.le (s3.fkeep s2.ok), rw⟩, trivial⟩
end
section
variable {C : WC} {X : Cx} {c : Ctx} {g : Gh}
theorem never_of (ok : CtxOk C X c) : PassesOwn (model X.prog X.w) X.A X.env X.xe := by rw [ok.xe]; exact PassesOwn.never
theorem ite_imp {t : CX} {a b : CSs} {D : Ends} {σ : L2.St} {H : Hp} (q : semS X g (wS C (.ite t a b)) D σ H) : tIfS (semT X (wT C t)) (semS X g (wSs C a)) (semS X g (wSs C b)) D σ H := by
  obtain ⟨fr, F, E, ent, q, k⟩ := q
  refine semT1 ent.ok q fun x fr1 H1 F1 hR s => ?_
  cases x with
  | true => exact ⟨fr1, F1, E, ent.step s, hR, k.weaken (s.ext ent.ok)⟩
  | false => exact ⟨fr1, F1, E, ent.step s, hR, k.weaken (s.ext ent.ok)⟩
theorem whl_imp {t : CX} {b : CSs} {D : Ends} {σ : L2.St} {H : Hp} (q : semS X g (wS C (.whl t b)) D σ H) : tWhile (semT X (wT C t)) (semS X g (wSs C b)) D σ H := by
  obtain ⟨fr, F, E, ent, ⟨n, q⟩, k⟩ := q
  refine ⟨fun m σ' H' => ∃ fr' F', Ent X.K g σ' fr' F' H' ∧ Ext F H F' H' ∧ whlGo (wT C t) (wSs C b) m fr' E, ⟨n, fr, F, ent, .refl, q⟩, ?_⟩
  rintro m σ' H' ⟨fr', F', ent', x', q'⟩
  cases m with
  | zero => exact q'.elim
  | succ m =>
    refine semT1 ent'.ok q' fun y fr2 H2 F2 hR s => ?_
    have x2 := x'.trans (s.ext ent'.ok)
    cases y with
    | false => exact k.nx _ _ _ _ hR (ent'.step s) x2
    | true =>
      refine ⟨fun σ' H' => ∃ fr' F', Ent X.K g σ' fr' F' H' ∧ Ext F H F' H' ∧ whlGo (wT C t) (wSs C b) m fr' E, fun σ3 H3 z => ⟨m, Nat.lt_succ_self m, z⟩, ?_⟩
      exact ⟨fr2, F2, _, ent'.step s, hR, ⟨fun a b c d e1 e2 e3 => ⟨a, c, e2, x2.trans e3, e1⟩, fun a b c d e1 e2 e3 => k.nx _ _ _ _ e1 e2 (x2.trans e3), fun a b c d e1 e2 e3 => ⟨a, c, e2, x2.trans e3, e1⟩, k.rt⟩⟩
theorem for_imp {t : CT} {it : CI} {b : CSs} {D : Ends} {σ : L2.St} {H : Hp} (q : semS X g (wS C (.for t it b)) D σ H) : tFor (semI X (wI C it)) (gOf X.K t) (semS X g (wSs C b)) D σ H := by
  obtain ⟨fr, F, E, ent, q, k⟩ := q
  refine ⟨fr, F, _, ent.ok, q, fun src fr1 hR => ?_, fun src fr1 vs H1 F1 sv' J hR s so sn es hj => ?_⟩
  · cases e1 : frzSrc fr1 src with
    | none => rw [e1] at hR; exact hR.elim
    | some p =>
      obtain ⟨src2, fr2⟩ := p
      rw [e1] at hR
      obtain ⟨sv, xs, h1, h2, _⟩ := hR
      obtain ⟨a1, a2, _⟩ := frzSrc_ds (K := X.K) e1 sv h1
      exact ⟨sv, xs, a1, a2 _ (itemsT_of h2).1⟩
  · cases e1 : frzSrc fr1 src with
    | none => rw [e1] at hR; exact hR.elim
    | some p =>
      obtain ⟨src2, fr2⟩ := p
      rw [e1] at hR
      obtain ⟨sv, xs, h1, h2, go⟩ := hR
      obtain ⟨a1, a2, a3, a4⟩ := frzSrc_ds (K := X.K) e1 sv h1
      rw [es] at a1
      cases a1
      rw [← a4] at hj
      obtain ⟨F2, s2, so2, sval⟩ := frzSrc_ok ent.ok s so sn e1
      have x2 := s2.ext ent.ok
      refine ⟨fun i m σ' H' => ∃ fr' F', Ent X.K g σ' fr' F' H' ∧ Ext F2 H1 F' H' ∧ i ≤ xs.length ∧ m = xs.length - i ∧ forGo (wSs C b) t (xs.drop i) fr' E, ⟨xs.length, fr2, F2, ent.step s2, .refl, Nat.zero_le _, by simp, go⟩, ?_⟩
      rintro i m σ' H' ⟨fr', F', ent', x', li, rfl, q'⟩
      have IA := it_at ent'.ok (SrcOk.ext sval so2 x' (σ' := σ') (fr' := fr')) (a3 fr') (itemsT_of h2).1 hj i
      by_cases hlt : i < xs.length
      · have ed : xs.drop i = xs[i] :: xs.drop (i + 1) := List.drop_eq_getElem_cons hlt
        rw [ed] at q'
        obtain ⟨fr3, ea, q'⟩ := q'
        refine .inr ⟨IA.go hlt, fun σ' H' => ∃ fr' F', Ent X.K g σ' fr' F' H' ∧ Ext F2 H1 F' H' ∧ forGo (wSs C b) t (xs.drop (i + 1)) fr' E, ?_, fun x H3 hy => ?_⟩
        · rintro σ4 H4 ⟨fr4, F4, b1, b2, b3⟩
          exact ⟨xs.length - (i + 1), by omega, fr4, F4, b1, b2, hlt, rfl, b3⟩
        · obtain ⟨d, ed, hx⟩ := IA.yld x H3 hy hlt
          have edx : xs[i] = d := by
            rw [List.getElem?_eq_getElem hlt] at ed
            exact Option.some.inj ed
          rw [edx] at ea
          obtain ⟨F3, ent3, x3, rx⟩ : ∃ F3, Ent X.K g σ' fr' F3 H3 ∧ Ext F' H' F3 H3 ∧ ItRep X.K H3 F3 (srcPr src2) x d := by
            rcases hx with ⟨rfl, rx⟩ | ⟨ep, T, y, z, dy, dz, rfl, hT, rfl, rfl, ry, rz⟩
            · exact ⟨F', ent', .refl, .rep rx⟩
            · have st : Stp X.K σ' fr' F' H' fr' (fun a => F' a ∨ a = T) (upd H' T (.tup [y, z])) := Stp.laidFz ent'.ok hT
              exact ⟨_, ent'.step st, st.ext ent'.ok, .pair ep upd_same (ry.mono st.le (st.fkeep ent'.ok)) (rz.mono st.le (st.fkeep ent'.ok))⟩
          have x23 := x'.trans x3
          refine asg_it ent3.ok rx (itemsT_of h2).2 ea fun σ2 ok4 as => ?_
          exact ⟨fr3, F3, _, ent3.asg ok4 as, q', ⟨fun a b c d e1 e2 e3 => ⟨a, c, e2, x23.trans e3, e1⟩, fun a b c d e1 e2 e3 => k.nx _ _ _ _ e1 e2 (x2.trans (x23.trans e3)), fun a b c d e1 e2 e3 => ⟨a, c, e2, x23.trans e3, e1⟩, k.rt⟩⟩
      · have ei : i = xs.length := by omega
        subst ei
        rw [List.drop_length] at q'
        exact .inl ⟨IA.stop rfl, k.nx _ _ _ _ q' ent' (x2.trans x')⟩
theorem whf_imp {fg : List Nat} {t : CX} {b : CSs} {D : Ends} {σ : L2.St} {H : Hp} (q : semS X g (wS C (.whf fg t b)) D σ H) : tWhile (semT X (wT C t)) (semS X g (wSs C b)) D σ H := by
  obtain ⟨fr, F, E, ent, ⟨n, q⟩, k⟩ := q
  refine ⟨fun m σ' H' => ∃ fr' F', Ent X.K g σ' fr' F' H' ∧ Ext F H F' H' ∧ whlGoF (wT C t) (wSs C b) fg m fr' E, ⟨n, fr, F, ent, .refl, q⟩, ?_⟩
  rintro m σ' H' ⟨fr', F', ent0, x', q'⟩
  have ent' := ent0.fgt fg
  cases m with
  | zero => exact q'.elim
  | succ m =>
    refine semT1 ent'.ok q' fun y fr2 H2 F2 hR s => ?_
    have x2 := x'.trans (s.ext ent'.ok)
    cases y with
    | false => exact k.nx _ _ _ _ hR (ent'.step s) x2
    | true =>
      refine ⟨fun σ' H' => ∃ fr' F', Ent X.K g σ' fr' F' H' ∧ Ext F H F' H' ∧ whlGoF (wT C t) (wSs C b) fg m fr' E, fun σ3 H3 z => ⟨m, Nat.lt_succ_self m, z⟩, ?_⟩
      exact ⟨fr2, F2, _, ent'.step s, hR, ⟨fun a b c d e1 e2 e3 => ⟨a, c, e2, x2.trans e3, e1⟩, fun a b c d e1 e2 e3 => k.nx _ _ _ _ e1 (e2.fgt fg) (x2.trans e3), fun a b c d e1 e2 e3 => ⟨a, c, e2, x2.trans e3, e1⟩, k.rt⟩⟩
theorem fof_imp {fg : List Nat} {t : CT} {it : CI} {b : CSs} {D : Ends} {σ : L2.St} {H : Hp} (q : semS X g (wS C (.fof fg t it b)) D σ H) : tFor (semI X (wI C it)) (gOf X.K t) (semS X g (wSs C b)) D σ H := by
  obtain ⟨fr, F, E, ent, q, k⟩ := q
  refine ⟨fr, F, _, ent.ok, q, fun src fr1 hR => ?_, fun src fr1 vs H1 F1 sv' J hR s so sn es hj => ?_⟩
  · cases e1 : frzSrc fr1 src with
    | none => rw [e1] at hR; exact hR.elim
    | some p =>
      obtain ⟨src2, fr2⟩ := p
      rw [e1] at hR
      obtain ⟨sv, xs, h1, h2, _⟩ := hR
      obtain ⟨a1, a2, _⟩ := frzSrc_ds (K := X.K) e1 sv h1
      exact ⟨sv, xs, a1, a2 _ (itemsT_of h2).1⟩
  · cases e1 : frzSrc fr1 src with
    | none => rw [e1] at hR; exact hR.elim
    | some p =>
      obtain ⟨src2, fr2⟩ := p
      rw [e1] at hR
      obtain ⟨sv, xs, h1, h2, go⟩ := hR
      obtain ⟨a1, a2, a3, a4⟩ := frzSrc_ds (K := X.K) e1 sv h1
      rw [es] at a1
      cases a1
      rw [← a4] at hj
      obtain ⟨F2, s2, so2, sval⟩ := frzSrc_ok ent.ok s so sn e1
      have x2 := s2.ext ent.ok
      refine ⟨fun i m σ' H' => ∃ fr' F', Ent X.K g σ' fr' F' H' ∧ Ext F2 H1 F' H' ∧ i ≤ xs.length ∧ m = xs.length - i ∧ forGoF (wSs C b) t fg (xs.drop i) fr' E, ⟨xs.length, fr2, F2, ent.step s2, .refl, Nat.zero_le _, by simp, go⟩, ?_⟩
      rintro i m σ' H' ⟨fr0, F', ent0, x', li, rfl, q'⟩
      have ent' := ent0.fgt fg
      have IA := it_at ent'.ok (SrcOk.ext sval so2 x' (σ' := σ') (fr' := fgtF fr0 fg)) (a3 _) (itemsT_of h2).1 hj i
      by_cases hlt : i < xs.length
      · have ed : xs.drop i = xs[i] :: xs.drop (i + 1) := List.drop_eq_getElem_cons hlt
        rw [ed] at q'
        obtain ⟨fr3, ea, q'⟩ := q'
        refine .inr ⟨IA.go hlt, fun σ' H' => ∃ fr' F', Ent X.K g σ' fr' F' H' ∧ Ext F2 H1 F' H' ∧ forGoF (wSs C b) t fg (xs.drop (i + 1)) fr' E, ?_, fun x H3 hy => ?_⟩
        · rintro σ4 H4 ⟨fr4, F4, b1, b2, b3⟩
          exact ⟨xs.length - (i + 1), by omega, fr4, F4, b1, b2, hlt, rfl, b3⟩
        · obtain ⟨d, ed, hx⟩ := IA.yld x H3 hy hlt
          have edx : xs[i] = d := by
            rw [List.getElem?_eq_getElem hlt] at ed
            exact Option.some.inj ed
          rw [edx] at ea
          obtain ⟨F3, ent3, x3, rx⟩ : ∃ F3, Ent X.K g σ' (fgtF fr0 fg) F3 H3 ∧ Ext F' H' F3 H3 ∧ ItRep X.K H3 F3 (srcPr src2) x d := by
            rcases hx with ⟨rfl, rx⟩ | ⟨ep, T, y, z, dy, dz, rfl, hT, rfl, rfl, ry, rz⟩
            · exact ⟨F', ent', .refl, .rep rx⟩
            · have st : Stp X.K σ' (fgtF fr0 fg) F' H' (fgtF fr0 fg) (fun a => F' a ∨ a = T) (upd H' T (.tup [y, z])) := Stp.laidFz ent'.ok hT
              exact ⟨_, ent'.step st, st.ext ent'.ok, .pair ep upd_same (ry.mono st.le (st.fkeep ent'.ok)) (rz.mono st.le (st.fkeep ent'.ok))⟩
          have x23 := x'.trans x3
          refine asg_it ent3.ok rx (itemsT_of h2).2 ea fun σ2 ok4 as => ?_
          exact ⟨fr3, F3, _, ent3.asg ok4 as, q', ⟨fun a b c d e1 e2 e3 => ⟨a, c, e2, x23.trans e3, e1⟩, fun a b c d e1 e2 e3 => k.nx _ _ _ _ e1 (e2.fgt fg) (x2.trans (x23.trans e3)), fun a b c d e1 e2 e3 => ⟨a, c, e2, x23.trans e3, e1⟩, k.rt⟩⟩
      · have ei : i = xs.length := by omega
        subst ei
        rw [List.drop_length] at q'
        exact .inl ⟨IA.stop rfl, k.nx _ _ _ _ q' ent' (x2.trans x')⟩
mutual
theorem soundS : ∀ (a : CS) {X : Cx} {c : Ctx} {g : Gh} (ok : CtxOk C X c) {s : Stmt}, chkS c a s = true → PS X s (semS X g (wS C a))
  | .set t a, X, c, g, ok, s, h => by
    unfold chkS at h
    split at h
    · obtain ⟨h1234, h5⟩ := and_of h
      obtain ⟨h123, h4⟩ := and_of h1234
      obtain ⟨h12, h3⟩ := and_of h123
      obtain ⟨h1, h2⟩ := and_of h12
      exact set_sound ok h1 h2 h3 h4 (soundE a ok h5).1
    · cases h
  | .setLc i a, X, c, g, ok, s, h => by
    unfold chkS at h
    split at h
    · rename_i y py elt tg iter ifs scope pos spos
      obtain ⟨h12345, h6⟩ := and_of h
      obtain ⟨h1234, h5⟩ := and_of h12345
      obtain ⟨h123, h4⟩ := and_of h1234
      obtain ⟨h12, h3⟩ := and_of h123
      obtain ⟨h1, h2⟩ := and_of h12
      split at h6
      · rename_i os t it co b
        obtain ⟨a123456, a7⟩ := and_of h6
        obtain ⟨a12345, a6⟩ := and_of a123456
        obtain ⟨a1234, a5⟩ := and_of a12345
        obtain ⟨a123, a4⟩ := and_of a1234
        obtain ⟨a12, a3⟩ := and_of a123
        obtain ⟨a1, a2⟩ := and_of a12
        have eo : (ownOf c os).map (·.2) = os := by
          unfold ownOf
          rw [List.map_map]
          exact List.map_id' os
        have hk : X.env.scope.kind = .function := by rw [ok.sc]; exact of_decide_eq_true h2
        have hy : X.env.scope.names.lookup y = some .local := by rw [ok.sc]; exact of_decide_eq_true h3
        have := ps_setLc (spos := spos) (elt := elt) (te := semE X (wE C b)) (tt := semT X (wO C co)) (g := gOf X.K t) (pos := pos) (own := ownOf c os) ok.calm (by rw [ok.N]; exact ok.nd)
          (by rw [ok.N]; exact of_decide_eq_true (and_of h1).1) hy (sw_true (l := spos.line) hk hy h4 (by simpa using h5)) (soundI it ok a4 (tg := tg)) (blkOk_by (by rw [ok.N, ok.sc]; exact a1))
          (fun s H D cl fp => by have := chkT_sound (ok.blk (scope := scope) (s := s) (H := H) (cl := cl) (a := D) (fp := fp)) a5; exact this)
          (fun s H D cl fp => soundO co (ok.blk (scope := scope) (s := s) (H := H) (cl := cl) (a := D) (fp := fp)) a6)
          (fun s H D cl fp => (soundE b (ok.blk (scope := scope) (s := s) (H := H) (cl := cl) (a := D) (fp := fp)) a7).1) (setIter_of a3)
        rw [eo] at this
        exact ps_imp this fun D σ H q => tLc_le (lc_imp a2) (setLc_imp q)
      · cases h6
    · cases h
  | .setIx o i a, X, c, g, ok, s, h => by
    unfold chkS at h
    split at h
    · obtain ⟨h1234, h5⟩ := and_of h
      obtain ⟨h123, h4⟩ := and_of h1234
      obtain ⟨h12, h3⟩ := and_of h123
      obtain ⟨h1, h2⟩ := and_of h12
      exact setIx_sound ok h1 h2 (soundE o ok h3).1 (soundE i ok h4).1 (soundE a ok h5).1
    · cases h
  | .ex a, X, c, g, ok, s, h => by
    unfold chkS at h
    split at h
    · obtain ⟨h1, h2⟩ := and_of h
      exact ex_sound h1 (soundE a ok h2).1
    · cases h
  | .ret a, X, c, g, ok, s, h => by
    unfold chkS at h
    split at h
    · exact ret_sound (soundE a ok h).1
    · cases h
  | .retN, X, c, g, ok, s, h => by
    unfold chkS at h
    split at h
    · exact retN_sound
    · cases h
  | .aug i o a, X, c, g, ok, s, h => by
    unfold chkS at h
    split at h
    · obtain ⟨h12, h3⟩ := and_of h
      obtain ⟨h1, h2⟩ := and_of h12
      refine aug_sound ok h1 ?_ (soundE a ok h3).1
      rcases or_of h2 with h | h
      · obtain ⟨b1, b2⟩ := and_of h
        exact .inl ⟨of_decide_eq_true b1, of_decide_eq_true b2⟩
      · obtain ⟨b1, b2⟩ := and_of h
        exact .inr ⟨of_decide_eq_true b1, of_decide_eq_true b2⟩
    · cases h
  | .ite t a b, X, c, g, ok, s, h => by
    unfold chkS at h
    split at h
    · obtain ⟨h12, h3⟩ := and_of h
      obtain ⟨h1, h2⟩ := and_of h12
      exact ps_imp (ps_if (soundE t ok h1).2 (soundSs a ok h2) (soundSs b ok h3)) fun D σ H q => ite_imp q
    · cases h
  | .for t it b, X, c, g, ok, s, h => by
    unfold chkS at h
    split at h
    · obtain ⟨h123, h4⟩ := and_of h
      obtain ⟨h12, h3⟩ := and_of h123
      obtain ⟨h1, h2⟩ := and_of h12
      exact ps_imp (ps_for (never_of ok) ok.calm (soundI it ok h2) (chkT_sound ok h3) (soundSs b ok h4) (setIter_of h1)) fun D σ H q => for_imp q
    · cases h
  | .whl t b, X, c, g, ok, s, h => by
    unfold chkS at h
    split at h
    · obtain ⟨h1, h2⟩ := and_of h
      exact ps_imp (ps_while (never_of ok) (soundE t ok h1).2 (soundSs b ok h2)) fun D σ H q => whl_imp q
    · cases h
  | .fof fg t it b, X, c, g, ok, s, h => by
    unfold chkS at h
    split at h
    · obtain ⟨h123, h4⟩ := and_of h
      obtain ⟨h12, h3⟩ := and_of h123
      obtain ⟨h1, h2⟩ := and_of h12
      exact ps_imp (ps_for (never_of ok) ok.calm (soundI it ok h2) (chkT_sound ok h3) (soundSs b ok h4) (setIter_of h1)) fun D σ H q => fof_imp q
    · cases h
  | .whf fg t b, X, c, g, ok, s, h => by
    unfold chkS at h
    split at h
    · obtain ⟨h1, h2⟩ := and_of h
      exact ps_imp (ps_while (never_of ok) (soundE t ok h1).2 (soundSs b ok h2)) fun D σ H q => whf_imp q
    · cases h
  | .brk, X, c, g, ok, s, h => by
    unfold chkS at h
    split at h
    · exact ps_imp ps_break fun D σ H ⟨fr, F, E, ent, q, k⟩ => k.bk _ _ _ _ q ent .refl
    · cases h
  | .cnt, X, c, g, ok, s, h => by
    unfold chkS at h
    split at h
    · exact ps_imp ps_continue fun D σ H ⟨fr, F, E, ent, q, k⟩ => k.ct _ _ _ _ q ent .refl
    · cases h
  | .pass, X, c, g, ok, s, h => by
    unfold chkS at h
    split at h
    · exact ps_imp ps_pass fun D σ H ⟨fr, F, E, ent, q, k⟩ => k.nx _ _ _ _ q ent .refl
    · cases h
theorem soundSs : ∀ (a : CSs) {X : Cx} {c : Ctx} {g : Gh} (ok : CtxOk C X c) {s : List Stmt}, chkSs c a s = true → PSs X s (semS X g (wSs C a))
  | .nil, X, c, g, ok, s, h => by
    unfold chkSs at h
    split at h
    · exact pss_imp pss_nil fun D σ H ⟨fr, F, E, ent, q, k⟩ => k.nx _ _ _ _ q ent .refl
    · cases h
  | .cons a r, X, c, g, ok, s, h => by
    unfold chkSs at h
    split at h
    · obtain ⟨h1, h2⟩ := and_of h
      refine pss_imp (pss_cons (soundS a (g := g) ok h1) (soundSs r (g := g) ok h2)) fun D σ H ⟨fr, F, E, ent, q, k⟩ => ?_
      exact ⟨fr, F, _, ent, q, ⟨fun a b c d e1 e2 e3 => ⟨a, c, E, e2, e1, k.weaken e3⟩, k.bk, k.ct, k.rt⟩⟩
    · cases h
  | .fgt is r, X, c, g, ok, s, h => by
    unfold chkSs at h
    refine pss_imp (soundSs r (g := g) ok h) fun D σ H ⟨fr, F, E, ent, q, k⟩ => ?_
    exact ⟨fgtF fr is, F, E, ent.fgt is, q, k⟩
  | .frz i r, X, c, g, ok, s, h => by
    unfold chkSs at h
    refine pss_imp (soundSs r (g := g) ok h) fun D σ H ⟨fr, F, E, ent, q, k⟩ => ?_
    simp only [wSs] at q
    cases e : fr[i]? with
    | none => rw [e] at q; exact q.elim
    | some sl =>
      rw [e] at q
      cases sl with
      | none => exact q.elim
      | val d => exact ⟨fr, F, E, ent, q, k⟩
      | own b d =>
        cases b with
        | true => exact q.elim
        | false =>
          obtain ⟨a, e1, _⟩ := ent.ok.own i false d e
          obtain ⟨F', st, _⟩ := Stp.freezeSlot ent.ok e e1
          exact ⟨_, F', E, ent.step st, q, k.weaken (st.ext ent.ok)⟩
end
end
end QL
set_option maxHeartbeats 2200000
/-! QU: the table of defs -/
namespace QL
open PySem L2
/-- a def with what is compiled from it -/
structure TD where
  x : Str
  st : Stmt
  ps : List Str
  N : List Str
  body : CSs
def TD.fn (d : TD) : Fn := ⟨d.ps.length, d.N.length, d.body⟩
def scB (N P : List Str) (sc : Scope) : Bool :=
  (decide (sc.kind = .function) && (!sc.isCoroutine && !sc.isGenerator)) && ((decide N.Nodup && decide (N.take P.length = P)) && (P.all (fun x => decide (sc.names.lookup x = some .local) || decide (sc.names.lookup x = some .cell)) && sc.names.all fun y => !decide (y.2 = .free)))
theorem scB_of {N P : List Str} {sc : Scope} (h : scB N P sc = true) : FnScope N P sc := by
  obtain ⟨h1, h2⟩ := and_of h
  obtain ⟨k1, k2⟩ := and_of h1
  obtain ⟨k3, k4⟩ := and_of k2
  obtain ⟨k5, k6⟩ := and_of h2
  obtain ⟨k7, k8⟩ := and_of k5
  obtain ⟨k9, k10⟩ := and_of k6
  refine ⟨of_decide_eq_true k1, by simpa using k3, by simpa using k4, of_decide_eq_true k7, of_decide_eq_true k8, fun x hx => ?_, fun y hy => by simpa using List.all_eq_true.mp k10 y hy⟩
  rcases or_of (List.all_eq_true.mp k9 x hx) with z | z
  · exact .inl (of_decide_eq_true z)
  · exact .inr (of_decide_eq_true z)
def tdC (fns bl : List Str) (d : TD) : Ctx := { sc := defScope d.st, raw := defScope d.st, N := d.N, fns := fns, bl := bl }
def tdOk (fns bl : List Str) (d : TD) : Bool := scB d.N d.ps (defScope d.st) && chkSs (tdC fns bl d) d.body (defBody d.st)
/-- the table stands in the program -/
structure TabIn (K : PySem.W.Frag) (mg : Str → Option Value) (bl : List Str) (T : List TD) : Prop where
  ok : ∀ d ∈ T, tdOk (T.map TD.x) bl d = true
  bl : ∀ x ∈ bl, mg x = none
  fn : ∀ d ∈ T, ∃ (a : Addr) (fd : FuncData), Fun K d.x d.x d.st a fd ∧ mg d.x = some (.ref a) ∧ Binds K fd d.ps []
section
variable {P : Program} {w : World} {K : PySem.W.Frag} {mg : Str → Option Value} {base : Heap} {bl : List Str} {T : List TD}
theorem map_get {T : List TD} {i : Nat} {d : TD} (h : T[i]? = some d) : (T.map TD.fn)[i]? = some d.fn ∧ (T.map TD.x)[i]? = some d.x := by
  rw [List.getElem?_map, List.getElem?_map, h]
  exact ⟨rfl, rfl⟩
theorem callW_len {n i : Nat} {d : TD} (h : T[i]? = some d) {ss : List Sl} {R : Rf → List Sl → Prop} (hc : callW (T.map TD.fn) n i ss R) : ss.length = d.ps.length := by
  cases n with
  | zero => exact hc.elim
  | succ n =>
    unfold callW at hc
    rw [(map_get h).1] at hc
    exact hc.1
theorem frOk_start {H : Hp} {F : Addr → Prop} {vs : List V} {ss : List Sl} {n m : Nat} (h : FrOk K H F (vs.map some) ss) : FrOk K H F (vs.map some ++ List.replicate n none) (ss ++ List.replicate n .none) := by
  have hl := h.len
  have key : ∀ {i : Nat} {s : Sl}, (ss ++ List.replicate n Sl.none)[i]? = some s → s ≠ .none → ss[i]? = some s ∧ (vs.map some ++ List.replicate n none)[i]? = (vs.map some)[i]? := fun {i s} e ns => by
    by_cases hi : i < ss.length
    · rw [List.getElem?_append_left hi] at e
      exact ⟨e, List.getElem?_append_left (by rw [← hl]; exact hi)⟩
    · rw [List.getElem?_append_right (by omega), List.getElem?_replicate] at e
      split at e
      · cases e; exact (ns rfl).elim
      · cases e
  refine ⟨h.fh, fun i d e => ?_, fun i b d e => ?_, fun i j a b c d e e1 e2 s1 s2 => ?_, by rw [List.length_append, List.length_append, hl, List.length_replicate, List.length_replicate]⟩
  · obtain ⟨e1, e2⟩ := key e (fun z => by cases z)
    rw [e2]; exact h.val i d e1
  · obtain ⟨e1, e2⟩ := key e (fun z => by cases z)
    rw [e2]; exact h.own i b d e1
  · obtain ⟨f1, g1⟩ := key e1 (fun z => by cases z)
    obtain ⟨f2, g2⟩ := key e2 (fun z => by cases z)
    rw [g1] at s1; rw [g2] at s2
    exact h.inj i j a b c d e f1 f2 s1 s2
theorem own_start {vs : List V} {ss : List Sl} {n : Nat} {a : Addr} (hl : ss.length = (vs.map some).length) (h : Own (ss ++ List.replicate n .none) (vs.map some ++ List.replicate n none) a) : Own ss (vs.map some) a := by
  obtain ⟨i, b, d, e1, e2⟩ := h
  by_cases hi : i < ss.length
  · rw [List.getElem?_append_left hi] at e1
    rw [List.getElem?_append_left (by rw [← hl]; exact hi)] at e2
    exact ⟨i, b, d, e1, e2⟩
  · rw [List.getElem?_append_right (by omega), List.getElem?_replicate] at e1
    split at e1 <;> cases e1
theorem ownF_start {vs : List V} {ss : List Sl} {n : Nat} {a : Addr} (hl : ss.length = (vs.map some).length) (h : OwnF (ss ++ List.replicate n .none) (vs.map some ++ List.replicate n none) a) : OwnF ss (vs.map some) a := by
  obtain ⟨i, d, e1, e2⟩ := h
  by_cases hi : i < ss.length
  · rw [List.getElem?_append_left hi] at e1
    rw [List.getElem?_append_left (by rw [← hl]; exact hi)] at e2
    exact ⟨i, d, e1, e2⟩
  · rw [List.getElem?_append_right (by omega), List.getElem?_replicate] at e1
    split at e1 <;> cases e1
theorem CallPost.nrm {vs : List V} {ss outs : List Sl} {F F' : Addr → Prop} {H H' : Hp} {r : Rf} {v : V} (c : CallPost K vs ss F H r outs v F' H') : CallPost K vs ss F H r (outs.map nrm) v F' H' :=
  { c with
    back := fun i d e => by
      obtain ⟨d', a, e1, r⟩ := c.back i d e
      exact ⟨d', a, by rw [List.getElem?_map, e1]; rfl, r⟩
    len := by rw [List.length_map]; exact c.len }
theorem tab_ok (t : TabIn K mg bl T) : ∀ (n i : Nat) (d : TD), T[i]? = some d → ∀ (a : Addr) (fd : FuncData), Fun K d.x d.x d.st a fd → FnOk P w K mg base CX0 n a fd d.ps (spC K d.ps.length (callW (T.map TD.fn) n i))
  | 0, i, d, hd, a, fd, F => ⟨fun vs H Q E h => by obtain ⟨F, ss, R, hl, _⟩ := h; exact hl, fun A outer s H args us vs Q E hr e0 hb hv h => by
      obtain ⟨F, ss, R, hl, ok, hw, _⟩ := h
      exact hw.elim⟩
  | n + 1, i, d, hd, a, fd, F => by
    have hok := t.ok d (List.mem_of_getElem? hd)
    obtain ⟨h1, h2⟩ := and_of hok
    have S := scB_of h1
    have hN : d.ps.length ≤ d.N.length := by
      have := congrArg List.length S.pre
      rw [List.length_take] at this
      omega
    refine F.ok S (fun vs H Q E h => by obtain ⟨F, ss, R, hl, _⟩ := h; exact hl) fun cdv A outer s H vs Q E hr h => ?_
    obtain ⟨F0, ss, R, hl, ok, hw, k⟩ := h
    have hss : ss.length = vs.length := by rw [ok.len, List.length_map]
    unfold callW at hw
    rw [(map_get hd).1] at hw
    obtain ⟨hnp, hw⟩ := hw
    have cok : CtxOk (callW (T.map TD.fn) n) (cxOf CX0 P w K mg base d.N d.x (defScope d.st) a cdv A outer s H E).nox (tdC (T.map TD.x) bl d) := {
      sc := rfl
      N := rfl
      nd := S.nd
      calm := rfl
      fn := fun _ _ => rfl
      bl := t.bl
      fns := ⟨n, hr, fun f x hx => by
        have hx : (T.map TD.x)[f]? = some x := hx
        rw [List.getElem?_map] at hx
        cases e : T[f]? with
        | none => rw [e] at hx; cases hx
        | some d' =>
          rw [e] at hx
          cases hx
          obtain ⟨a', fd', F', m', b'⟩ := t.fn d' (List.mem_of_getElem? e)
          exact ⟨a', fd', d'.ps, m', F'.kp, b', fun ss R hc => callW_len e hc, tab_ok t n f d' e a' fd' F'⟩⟩
      xe := rfl }
    have g : Gh := ⟨F0, H, ss, vs⟩
    have hw : wSs (callW (T.map TD.fn) n) d.body (ss ++ List.replicate (d.N.length - d.ps.length) .none) { nx := fun fr => R (.val .non) (outF d.fn.np fr), rt := fun r fr => R r (outF d.fn.np fr) } := hw
    refine ⟨_, soundSs d.body (g := ⟨F0, H, ss, vs⟩) cok h2, ss ++ List.replicate (d.N.length - d.ps.length) .none, F0, _, ?_, hw, ?_⟩
    · have e1 : L2.start d.N vs = vs.map some ++ List.replicate (d.N.length - d.ps.length) none := by
        unfold L2.start
        rw [hl]
      rw [e1]
      exact { ok := frOk_start (m := 0) ok, le := fun _ z => z, new := fun _ z => .inl z, keep := fun _ _ _ => rfl, alive := fun _ z => z, own := fun a z => .inr (own_start ok.len z), ownF := fun a z => .inr (ownF_start ok.len z),
              bor := fun i x e => by
                obtain ⟨a, f1, f2, f3⟩ := ok.own i true x e
                have hi : i < ss.length := (List.getElem?_eq_some_iff.mp e).1
                refine ⟨x, a, by rw [List.getElem?_append_left hi]; exact e, ?_, by rw [List.getElem?_append_left (by rw [List.length_map, ← hss]; exact hi)]; exact f1⟩
                rw [List.getElem?_map] at f1
                cases q : vs[i]? with
                | none => rw [q] at f1; cases f1
                | some v => rw [q] at f1; cases f1; rfl
              len := by show ss.length ≤ _; rw [List.length_append]; exact Nat.le_add_right _ _ }
    · have e2 : d.fn.np = ss.length := by rw [hnp]
      refine ⟨fun fr' σ' F' H' hn ent x => ?_, fun _ _ _ _ hn => hn.elim, fun _ _ _ _ hn => hn.elim, fun r fr' v F' H' hr cp => ?_⟩
      · have hn : R (.val .non) (outF d.fn.np fr') := hn
        rw [e2] at hn
        have cp := ent.post (v := V.non) (r := Rf.val .non) fr' (fun _ _ z => z) rfl (show Rep _ _ _ V.non D.non from .non)
        exact k _ _ _ _ _ hn cp.nrm
      · have hr : R r (outF d.fn.np fr') := hr
        rw [e2] at hr
        exact k _ _ _ _ _ hr cp.nrm
end
/-- a def's place in what the top has written -/
def DIn (K : PySem.W.Frag) (d : TD) : Prop := ∃ (f : Addr) (oc : Value) (od an : Option Addr) (osl : Array (Option Value)) (kV doc pm cdv ct : Value),
  PySem.W.nsIn K mainGlobals d.x = some (some (.ref f)) ∧ K.lookup f = some ⟨oc, od, .func (PySem.W.fnOf d.x d.x (defArgs d.st) (defBody d.st) (defScope d.st) .none kV doc pm an cdv ct), osl⟩ ∧ PySem.W.codeIn K cdv d.x = true ∧ PySem.W.keepIn K (.ref f) = true
theorem dIn_mk {K : PySem.W.Frag} {d : TD} {f : Addr} {oc : Value} {od an : Option Addr} {osl : Array (Option Value)} {kV doc pm cdv ct : Value} (a : PySem.W.nsIn K mainGlobals d.x = some (some (.ref f))) (l : K.lookup f = some ⟨oc, od, .func (PySem.W.fnOf d.x d.x (defArgs d.st) (defBody d.st) (defScope d.st) .none kV doc pm an cdv ct), osl⟩)
    (c : PySem.W.codeIn K cdv d.x = true) (k : PySem.W.keepIn K (.ref f) = true) : DIn K d := ⟨f, oc, od, an, osl, kV, doc, pm, cdv, ct, a, l, c, k⟩
def BndAt (d : TD) : Prop := ∀ (kV doc pm : Value) (an : Option Addr) (cdv ct : Value) (us : List Value), us.length = d.ps.length → bindArgs (PySem.W.fnOf d.x d.x (defArgs d.st) (defBody d.st) (defScope d.st) .none kV doc pm an cdv ct) ⟨us, []⟩ = pure (d.ps.zip us)
def AllT (p : TD → Prop) : List TD → Prop
  | [] => True
  | d :: r => p d ∧ AllT p r
theorem AllT.mem {p : TD → Prop} : ∀ {T : List TD}, AllT p T → ∀ d ∈ T, p d
  | [], _, d, h => by cases h
  | e :: r, a, d, h => by
    rcases List.mem_cons.1 h with rfl | h
    · exact a.1
    · exact AllT.mem a.2 d h
def AllS (p : Str → Prop) : List Str → Prop
  | [] => True
  | d :: r => p d ∧ AllS p r
theorem AllS.mem {p : Str → Prop} : ∀ {T : List Str}, AllS p T → ∀ d ∈ T, p d
  | [], _, d, h => by cases h
  | e :: r, a, d, h => by
    rcases List.mem_cons.1 h with rfl | h
    · exact a.1
    · exact AllS.mem a.2 d h
theorem tab_in {K : PySem.W.Frag} {h : Heap} {mg : Str → Option Value} {bl : List Str} {T : List TD} (X : K.In h) (G : h.Ns mainGlobals mg) (ok : T.all (tdOk (T.map TD.x) bl) = true) (hd : AllT (DIn K) T) (hb : AllT BndAt T) (hn : AllS (fun x => PySem.W.nsIn K mainGlobals x = some none) bl) : TabIn K mg bl T where
  ok := fun d hd => List.all_eq_true.mp ok d hd
  bl := fun x hx => PySem.W.mg_none_of X G (hn.mem x hx)
  fn := fun d h => by
    obtain ⟨f, oc, od, an, osl, kV, doc, pm, cdv, ct, a1, l1, c1, k1⟩ := hd.mem d h
    have F := fun_mk (st := d.st) l1 c1 k1
    exact ⟨f, _, F, PySem.W.mg_of X G a1, F.binds (hb.mem d h)⟩
/-- the law's def as walk_ofB asks for it -/
theorem law_F {l : PySem.W.OpenLaw} {w : World} {K : PySem.W.Frag} {h : Heap} {mg : Str → Option Value} {fa : Addr} {bl : List Str} {T : List TD} {n i : Nat} {d : TD} (X : K.In h) (G : h.Ns mainGlobals mg) (hfa : mg d.x = some (.ref fa)) (hi : T[i]? = some d) (hp : d.ps = [("script" : Str)])
    (ok : T.all (tdOk (T.map TD.x) bl) = true) (hd : AllT (DIn K) T) (hb : AllT BndAt T) (hn : AllS (fun x => PySem.W.nsIn K mainGlobals x = some none) bl) :
    ∃ fd : FuncData, (∀ (s : Shared) (v : Value), BindsTo s fd ⟨[v], []⟩ [("script", v)]) ∧ ∀ base : Heap, K.In base → base.Ns mainGlobals mg → FnOk l.prog w K mg base CX0 n fa fd ["script"] (spC K 1 (callW (T.map TD.fn) n i)) := by
  have t := tab_in X G ok hd hb hn
  have hmem := List.mem_of_getElem? hi
  obtain ⟨f, oc, od, an, osl, kV, doc, pm, cdv, ct, a1, l1, c1, k1⟩ := hd.mem d hmem
  have F := fun_mk (st := d.st) l1 c1 k1
  have e := (PySem.W.mg_of X G a1).symm.trans hfa
  cases e
  refine ⟨PySem.W.fnOf d.x d.x (defArgs d.st) (defBody d.st) (defScope d.st) .none kV doc pm an cdv ct, fun s v => .of_eq ?_, fun base _ _ => ?_⟩
  · have := hb.mem d hmem kV doc pm an cdv ct [v] (by rw [hp]; rfl)
    rw [hp] at this
    exact this
  · have := tab_ok (P := l.prog) (w := w) (base := base) t n i d hi _ _ F
    rw [hp] at this
    exact this
theorem law_sp {K : PySem.W.Frag} {H : Hp} {a : Addr} {ns : List Int} {C : WC} {i : Nat} (hS : SqL K H a (ns.map V.int)) (h : C i [.val (.frl (ns.map D.int))] fun r _ => r = .val (.bl true)) : spC K 1 (C i) [.ref a] H (fun v _ => v = .bl true) fun _ _ _ => False := by
  have rl : ∀ {F : Addr → Prop} (ns : List Int), RepL K H F (ns.map V.int) (ns.map D.int) := fun {F} ns => by
    induction ns with
    | nil => exact .nil
    | cons x r ih => exact .cons (.int x) ih
  refine ⟨fun b => H b ≠ none, [.val (.frl (ns.map D.int))], _, rfl, ⟨fun a z => z, fun j d e => ?_, fun j b d e => ?_, fun j k a b c d e e1 => ?_, rfl⟩, h, fun r outs v F' H' hr cp => ?_⟩
  · match j, e with
    | 0, e =>
      cases e
      refine ⟨.ref a, rfl, .frl ?_ (rl ns)⟩
      rcases hS with hS | hS
      · refine .inl ⟨?_, hS⟩
        rcases hS with e | ⟨o, e⟩ <;> rw [e] <;> simp
      · exact .inr hS
    | j + 1, e => simp at e
  · match j, e with
    | 0, e => cases e
    | j + 1, e => simp at e
  · match j, e1 with
    | 0, e => cases e
    | j + 1, e => simp at e
  · subst hr
    have := cp.res
    cases this
    rfl
/-- the walk's row by what the table computes -/
theorem law_walk {l : PySem.W.OpenLaw} {m n i : Nat} {q : Program} {loose : List Str} {XP : (Str → Option Value) → Heap → Prop} {YP : World → Heap → Prop} {d : DefRec} {K : Params → PySem.W.Frag} {T : List TD} {td : TD} {bl : List Str}
    (hn : l.most = some m) (hn2 : m ≤ sizeLine) (hdf : d.params.defaults = []) (hr : Room n callerA)
    (hY : ∀ (w : World) (h : Heap), YP w h → (K w.params).In h) (hx : d.name = td.x) (hi : T[i]? = some td) (hp : td.ps = [("script" : Str)])
    (ok : T.all (tdOk (T.map TD.x) bl) = true) (hb : AllT BndAt T)
    (hm : ∀ ns : List Int, ns.length ≤ m → (∀ z ∈ ns, Builtin.Int.intBits z ≤ 1048576) → callW (T.map TD.fn) n i [.val (.frl (ns.map D.int))] fun r _ => r = .val (.bl true))
    (hd : ∀ w : World, AllT (DIn (K w.params)) T) (hs : ∀ w : World, AllS (fun x => PySem.W.nsIn (K w.params) mainGlobals x = some none) bl) :
    PySem.W.WalkO q loose XP YP (l.row.toRowW) d [] (fun f vs => PySem.call f vs) :=
  L2.walk_ofB (l := l) (n := m) (k := n) (x := "script") (CX := fun _ => CX0) (sp := fun w => spC (K w.params) 1 (callW (T.map TD.fn) n i)) (K := K) hn hn2 hdf hr hY
    (fun w mg fa h KX G hmg => law_F KX G (by rw [← hx]; exact hmg) hi hp ok (hd w) hb (hs w)) (fun w H a ns hl hbits _ hS => law_sp hS (hm ns hl hbits)) (fun _ _ _ _ _ h => h)
end QL
set_option maxHeartbeats 1500000
/-! MA: the plain law's tools -/
namespace QL
open PySem L2
/-- a def's turn -/
def FnW (C : WC) (np ns : Nat) (body : CSs) (ss : List Sl) (Q : Rf → List Sl → Prop) : Prop :=
  ss.length = np ∧ wSs C body (ss ++ List.replicate (ns - np) .none) { nx := fun fr => Q (.val .non) (outF np fr), rt := fun r fr => Q r (outF np fr) }
theorem callW_step {T : List Fn} {n i : Nat} {d : Fn} (h : T[i]? = some d) {ss : List Sl} {Q : Rf → List Sl → Prop} (q : FnW (callW T n) d.np d.ns d.body ss Q) : callW T (n + 1) i ss Q := by
  unfold callW
  rw [h]
  exact q
theorem callW_td {T : List TD} {n i : Nat} {d : TD} (h : T[i]? = some d) {ss : List Sl} {Q : Rf → List Sl → Prop} (q : FnW (callW (T.map TD.fn) n) d.ps.length d.N.length d.body ss Q) : callW (T.map TD.fn) (n + 1) i ss Q :=
  callW_step (map_get h).1 q
@[simp] theorem eqvD_int {i j : Int} : eqvD (.int i) (.int j) = decide (i = j) := by
  unfold eqvD toPy
  rw [PyData.eqv]
  rw [Bool.eq_iff_iff]; simp
@[simp] theorem eqvD_str {i j : Str} : eqvD (.str i) (.str j) = decide (i = j) := by
  unfold eqvD toPy
  rw [PyData.eqv]
  rw [Bool.eq_iff_iff]; simp
@[simp] theorem eqvD_bl {i j : Bool} : eqvD (.bl i) (.bl j) = (i == j) := by
  unfold eqvD toPy
  rw [PyData.eqv]
@[simp] theorem pl_int {n : Nat} {i : Int} : Pl n (.int i) := by cases n <;> trivial
@[simp] theorem pl_str {n : Nat} {i : Str} : Pl n (.str i) := by cases n <;> trivial
@[simp] theorem pl_bl {n : Nat} {i : Bool} : Pl n (.bl i) := by cases n <;> trivial
@[simp] theorem pl_non {n : Nat} : Pl n .non := by cases n <;> trivial
@[simp] theorem pl_lst {n : Nat} {xs : List D} : Pl (n + 1) (.lst xs) ↔ ∀ x ∈ xs, Pl n x := Iff.rfl
@[simp] theorem pl_tup {n : Nat} {xs : List D} : Pl (n + 1) (.tup xs) ↔ ∀ x ∈ xs, Pl n x := Iff.rfl
theorem pl30_lst {xs : List D} : Pl 30 (.lst xs) ↔ ∀ x ∈ xs, Pl 29 x := Iff.rfl
theorem pl30_tup {xs : List D} : Pl 30 (.tup xs) ↔ ∀ x ∈ xs, Pl 29 x := Iff.rfl
@[simp] theorem pl30_ls {xs : List Str} : Pl 30 (.lst (xs.map .str)) := by
  rw [pl30_lst]; intro x hx
  obtain ⟨y, _, rfl⟩ := List.mem_map.mp hx
  simp
@[simp] theorem pl30_ts {xs : List Str} : Pl 30 (.tup (xs.map .str)) := by
  rw [pl30_tup]; intro x hx
  obtain ⟨y, _, rfl⟩ := List.mem_map.mp hx
  simp
@[simp] theorem pl30_lb {xs : List Bool} : Pl 30 (.lst (xs.map .bl)) := by
  rw [pl30_lst]; intro x hx
  obtain ⟨y, _, rfl⟩ := List.mem_map.mp hx
  simp
@[simp] theorem any_str {xs : List Str} {x : Str} : ((xs.map D.str).any fun z => eqvD z (.str x)) = decide (x ∈ xs) := by
  rw [Bool.eq_iff_iff]
  simp
@[simp] theorem any_strC {xs : List Str} {x : Str} : (xs.any ((fun z => eqvD z (.str x)) ∘ D.str)) = decide (x ∈ xs) := by
  rw [← List.any_map]; exact any_str
@[simp] theorem any_strE {xs : List Str} {x : Str} : (xs.any fun a => decide (a = x)) = decide (x ∈ xs) := by
  rw [Bool.eq_iff_iff]; simp
@[simp] theorem any_bl {xs : List Bool} {x : Bool} : ((xs.map D.bl).any fun z => eqvD z (.bl x)) = decide (x ∈ xs) := by
  rw [Bool.eq_iff_iff]
  simp
@[simp] theorem strsD_map : ∀ {xs : List Str}, strsD (xs.map .str) = some xs
  | [] => rfl
  | x :: r => by
    show (strsD (r.map .str)).map (x :: ·) = _
    rw [strsD_map]
    rfl
@[simp] theorem intsD_map : ∀ {xs : List Int}, intsD (xs.map .int) = some xs
  | [] => rfl
  | x :: r => by
    show (intsD (r.map .int)).map (x :: ·) = _
    rw [intsD_map]
    rfl
@[simp] theorem blsD_map : ∀ {xs : List Bool}, blsD (xs.map .bl) = some xs
  | [] => rfl
  | x :: r => by
    show (blsD (r.map .bl)).map (x :: ·) = _
    rw [blsD_map]
    rfl
/-- a comprehension that leaves the frame as it is -/
theorem lcGo_pure {src : Src} {sv : List D} {os : List Nat} {turn : D → Fr → (Option D → Fr → Prop) → Prop} {R : List D → Fr → Prop} {fr0 : Fr} (f : D → Option D) (hs : srcDs fr0 src = some sv) :
    ∀ {xs acc : List D}, (∀ x ∈ xs, ∃ fr', wipeF fr' os = fr0 ∧ ∀ K : Option D → Fr → Prop, K (f x) fr' → turn x fr0 K) → R (acc ++ xs.filterMap f) fr0 → lcGo src sv os turn xs acc fr0 R
  | [], acc, h, hR => ⟨hs, by simpa using hR⟩
  | x :: r, acc, h, hR => by
    obtain ⟨fr', e, ht⟩ := h x List.mem_cons_self
    refine ⟨hs, ht _ ?_⟩
    cases q : f x with
    | none =>
      show lcGo _ _ _ _ _ _ (wipeF fr' os) _
      rw [e]
      exact lcGo_pure f hs (fun y hy => h y (List.mem_cons_of_mem _ hy)) (by rw [List.filterMap_cons, q] at hR; exact hR)
    | some d =>
      show lcGo _ _ _ _ _ _ (wipeF fr' os) _
      rw [e]
      exact lcGo_pure f hs (fun y hy => h y (List.mem_cons_of_mem _ hy)) (by rw [List.filterMap_cons, q] at hR; simpa using hR)
/-- a comprehension with a state -/
theorem lcGo_inv {src : Src} {sv : List D} {os : List Nat} {turn : D → Fr → (Option D → Fr → Prop) → Prop} {R : List D → Fr → Prop} (I : List D → List D → Fr → Prop)
    (h : ∀ x r acc fr, I (x :: r) acc fr → srcDs fr src = some sv ∧ ∀ K : Option D → Fr → Prop, (∀ d fr', I r (acc ++ [d]) (wipeF fr' os) → K (some d) fr') → (∀ fr', I r acc (wipeF fr' os) → K none fr') → turn x fr K)
    (he : ∀ acc fr, I [] acc fr → srcDs fr src = some sv ∧ R acc fr) : ∀ {xs acc : List D} {fr : Fr}, I xs acc fr → lcGo src sv os turn xs acc fr R
  | [], acc, fr, i => he acc fr i
  | x :: r, acc, fr, i => by
    obtain ⟨h1, h2⟩ := h x r acc fr i
    exact ⟨h1, h2 _ (fun d fr' i' => lcGo_inv I h he i') fun fr' i' => lcGo_inv I h he i'⟩
theorem forGo_inv {body : Fr → En → Prop} {t : CT} {E : En} (I : List D → Fr → Prop)
    (h : ∀ x r fr, I (x :: r) fr → ∃ fr', asgT fr t x = some fr' ∧ ∀ nx : Fr → Prop, (∀ fr2, I r fr2 → nx fr2) → body fr' { nx := nx, ct := nx, bk := E.nx, rt := E.rt })
    (he : ∀ fr, I [] fr → E.nx fr) : ∀ {xs : List D} {fr : Fr}, I xs fr → forGo body t xs fr E
  | [], fr, i => he fr i
  | x :: r, fr, i => by
    obtain ⟨fr', e, q⟩ := h x r fr i
    exact ⟨fr', e, q _ fun fr2 i2 => forGo_inv I h he i2⟩
theorem whl_inv {c : Fr → (Bool → Fr → Prop) → Prop} {body : Fr → En → Prop} {E : En} (I : Nat → Fr → Prop)
    (h : ∀ m fr, I m fr → ∀ nx : Fr → Prop, (∀ k fr2, k < m → I k fr2 → nx fr2) → c fr fun b fr' => if b = true then body fr' { nx := nx, ct := nx, bk := E.nx, rt := E.rt } else E.nx fr') : ∀ {m : Nat} {fr : Fr}, I m fr → ∃ n, whlGo c body n fr E := by
  intro m fr i
  refine ⟨m + 1, ?_⟩
  have key : ∀ (n m : Nat) (fr : Fr), m < n → I m fr → whlGo c body n fr E := by
    intro n
    induction n with
    | zero => intro m fr hm; omega
    | succ n ih => intro m fr hm i; exact h m fr i _ fun k fr2 hk i2 => ih k fr2 (by omega) i2
  exact key (m + 1) m fr (Nat.lt_succ_self m) i

/-! ### defs of all laws -/
/-- a number below m is drawn -/
def TakeOk (C : WC) (i : Nat) : Prop := ∀ (b : Bool) (ds : List Int) (m : Int) (Q : Rf → List Sl → Prop), 0 < m → (∀ (ds' : List Int) (v : Int) (s : Sl), 0 ≤ v → v < m → Q (.val (.int v)) [.own b (.lst (ds'.map .int)), s]) →
  C i [.own b (.lst (ds.map .int)), .val (.int m)] Q
def bTake : CSs := (.cons (.ite (.op .eq (.cons (.op .len (.cons (.v 0) .nil)) (.cons (.k (.int 0)) .nil))) (.cons (.ret (.k (.int 0))) .nil) .nil) (.cons (.ret (.op .mod (.cons (.op .toInt (.cons (.mt .pop (.v 0) .nil) .nil)) (.cons (.v 1) .nil)))) .nil))
theorem take_ok {C : WC} {b : Bool} {ds : List Int} {m : Int} {Q : Rf → List Sl → Prop} (hm : 0 < m) (q : ∀ (ds' : List Int) (v : Int) (s : Sl), 0 ≤ v → v < m → Q (.val (.int v)) [.own b (.lst (ds'.map .int)), s]) : FnW C 2 2 bTake [.own b (.lst (ds.map .int)), .val (.int m)] Q := by
  refine ⟨rfl, ?_⟩
  unfold bTake
  simp [wSs, wS, wT, wE, wEs, wZ, wO, wI, opW, derefs, deref, readW, one, two, lenW, eqW, truthy, toIntW, toListW, toTupW, onI, mtTy, frz, asgT, asgAll, putSl, wipeF, restF, isOwn, argSls, argSl, borrows, giveBack, srcDs, itemsOf, seqItems, srcBors, rfBor, frzSrc, isTmp, inW, isNW, itemsT, indexLW, indexTW, ixW, anyW, allW, addW, slLoW, slHiW, sliceW, augF]
  by_cases h : ds = []
  · rw [if_pos h]
    exact q ds 0 _ (Int.le_refl 0) hm
  · rw [if_neg h]
    rw [List.getLast?_eq_getLast h]
    simp only [Option.map_some]
    refine ⟨hm, ?_⟩
    rw [← List.map_dropLast]
    exact q _ _ _ (Int.emod_nonneg _ (by omega)) (Int.emod_lt_of_pos _ hm)
def bPick (k : Nat) : CSs := (.cons (.ret (.op .ix (.cons (.v 1) (.cons (.call k (.cons (.v 0) (.cons (.fz (.op .len (.cons (.v 1) .nil))) .nil))) .nil)))) .nil)
/-- one of the items -/
def PickOk (C : WC) (i : Nat) : Prop := ∀ (b : Bool) (ds : List Int) (d : D) (xs : List D) (Q : Rf → List Sl → Prop), (d = .tup xs ∨ d = .lst xs) → xs ≠ [] → (∀ (ds' : List Int) (x : D) (s : Sl), x ∈ xs → Q (.val x) [.own b (.lst (ds'.map .int)), s]) →
  C i [.own b (.lst (ds.map .int)), .val d] Q
theorem atI_mem {α : Type} {xs : List α} {v : Int} (h0 : 0 ≤ v) (h1 : v < xs.length) : ∃ x, atI xs v = some x ∧ x ∈ xs := by
  have hl : v.toNat < xs.length := by omega
  refine ⟨xs[v.toNat], ?_, List.getElem_mem hl⟩
  have e := atI_nat (List.getElem?_eq_getElem hl)
  rw [show ((v.toNat : Nat) : Int) = v by omega] at e
  exact e
theorem pick_ok {C : WC} {k : Nat} (ht : TakeOk C k) {b : Bool} {ds : List Int} {d : D} {xs : List D} {Q : Rf → List Sl → Prop} (hd : d = .tup xs ∨ d = .lst xs) (hx : xs ≠ []) (q : ∀ (ds' : List Int) (x : D) (s : Sl), x ∈ xs → Q (.val x) [.own b (.lst (ds'.map .int)), s]) :
    FnW C 2 2 (bPick k) [.own b (.lst (ds.map .int)), .val d] Q := by
  refine ⟨rfl, ?_⟩
  have hl : 0 < xs.length := List.length_pos_iff.mpr hx
  unfold bPick
  rcases hd with rfl | rfl
  · simp [wSs, wS, wT, wE, wEs, wZ, wO, wI, opW, derefs, deref, readW, one, two, lenW, eqW, truthy, toIntW, toListW, toTupW, onI, mtTy, frz, asgT, asgAll, putSl, wipeF, restF, isOwn, argSls, argSl, borrows, giveBack, srcDs, itemsOf, seqItems, srcBors, rfBor, frzSrc, isTmp, inW, isNW, itemsT, indexLW, indexTW, ixW, anyW, allW, addW, slLoW, slHiW, sliceW, augF]
    refine ht _ _ _ _ (by omega) fun ds' v s h0 h1 => ?_
    obtain ⟨x, e, hm⟩ := atI_mem h0 h1
    simp [wSs, wS, wT, wE, wEs, wZ, wO, wI, opW, derefs, deref, readW, one, two, lenW, eqW, truthy, toIntW, toListW, toTupW, onI, mtTy, frz, asgT, asgAll, putSl, wipeF, restF, isOwn, argSls, argSl, borrows, giveBack, srcDs, itemsOf, seqItems, srcBors, rfBor, frzSrc, isTmp, inW, isNW, itemsT, indexLW, indexTW, ixW, anyW, allW, addW, slLoW, slHiW, sliceW, augF, e]
    exact q _ _ _ hm
  · simp [wSs, wS, wT, wE, wEs, wZ, wO, wI, opW, derefs, deref, readW, one, two, lenW, eqW, truthy, toIntW, toListW, toTupW, onI, mtTy, frz, asgT, asgAll, putSl, wipeF, restF, isOwn, argSls, argSl, borrows, giveBack, srcDs, itemsOf, seqItems, srcBors, rfBor, frzSrc, isTmp, inW, isNW, itemsT, indexLW, indexTW, ixW, anyW, allW, addW, slLoW, slHiW, sliceW, augF]
    refine ht _ _ _ _ (by omega) fun ds' v s h0 h1 => ?_
    obtain ⟨x, e, hm⟩ := atI_mem h0 h1
    simp [wSs, wS, wT, wE, wEs, wZ, wO, wI, opW, derefs, deref, readW, one, two, lenW, eqW, truthy, toIntW, toListW, toTupW, onI, mtTy, frz, asgT, asgAll, putSl, wipeF, restF, isOwn, argSls, argSl, borrows, giveBack, srcDs, itemsOf, seqItems, srcBors, rfBor, frzSrc, isTmp, inW, isNW, itemsT, indexLW, indexTW, ixW, anyW, allW, addW, slLoW, slHiW, sliceW, augF, e]
    exact q _ _ _ hm
end QL
set_option maxHeartbeats 1500000
/-! MB: sets of columns -/
namespace QL
open PySem L2
theorem le_line {n : Nat} (h : n ≤ 1000) : n ≤ sizeLine := Nat.le_of_lt (small1000 h)
/-- texts as a tuple -/
abbrev tS (xs : List Str) : D := .tup (xs.map .str)
abbrev lS (xs : List Str) : D := .lst (xs.map .str)
def SubOk (C : WC) (i : Nat) : Prop := ∀ (p c : List Str) (Q : Rf → List Sl → Prop), p.length ≤ 1000 → (∀ s t, Q (.val (.bl (decide (∀ x ∈ p, x ∈ c)))) [s, t]) → C i [.val (tS p), .val (tS c)] Q
def bSub : CSs := (.cons (.ret (.op .all (.cons (.lc [2] (.n 2) (.seq (.v 0)) .none (.op .isin (.cons (.v 2) (.cons (.v 1) .nil)))) .nil))) .nil)
theorem filterMap_map {α β : Type} (f : α → D) (g : α → β) (h : β → D) {xs : List α} (F : D → Option D) (e : ∀ x, F (f x) = some (h (g x))) : (xs.map f).filterMap F = (xs.map g).map h := by
  induction xs with
  | nil => rfl
  | cons x r ih => simp [e, ih]
theorem sub_ok {C : WC} {p c : List Str} {Q : Rf → List Sl → Prop} (hl : p.length ≤ 1000) (q : ∀ s t, Q (.val (.bl (decide (∀ x ∈ p, x ∈ c)))) [s, t]) : FnW C 2 3 bSub [.val (tS p), .val (tS c)] Q := by
  refine ⟨rfl, ?_⟩
  unfold bSub
  simp [wSs, wS, wT, wE, wEs, wZ, wO, wI, opW, derefs, deref, readW, one, two, lenW, eqW, truthy, toIntW, toListW, toTupW, onI, mtTy, frz, asgT, asgAll, putSl, wipeF, restF, isOwn, argSls, argSl, borrows, giveBack, srcDs, itemsOf, seqItems, srcBors, rfBor, frzSrc, isTmp, inW, isNW, itemsT, indexLW, indexTW, ixW, anyW, allW, addW, slLoW, slHiW, sliceW, augF]
  refine ⟨le_line hl, lcGo_pure (fun d => match d with | .str x => some (.bl (decide (x ∈ c))) | _ => none) rfl (fun x hx => ?_) ?_⟩
  · obtain ⟨y, hy, rfl⟩ := List.mem_map.mp hx
    refine ⟨[.val (tS p), .val (tS c), .val (.str y)], rfl, fun K hK => ?_⟩
    simpa [wSs, wS, wT, wE, wEs, wZ, wO, wI, opW, derefs, deref, readW, one, two, lenW, eqW, truthy, toIntW, toListW, toTupW, onI, mtTy, frz, asgT, asgAll, putSl, wipeF, restF, isOwn, argSls, argSl, borrows, giveBack, srcDs, itemsOf, seqItems, srcBors, rfBor, frzSrc, isTmp, inW, isNW, itemsT, indexLW, indexTW, ixW, anyW, allW, addW, slLoW, slHiW, sliceW, augF] using hK
  · rw [List.nil_append, filterMap_map D.str (fun x => decide (x ∈ c)) D.bl _ fun x => rfl]
    refine ⟨p.map fun x => decide (x ∈ c), blsD_map, ?_⟩
    have : (p.map fun x => decide (x ∈ c)).all id = decide (∀ x ∈ p, x ∈ c) := by
      rw [Bool.eq_iff_iff]; simp
    rw [this]
    exact q _ _
/-- False not in [.. in ..] -/
def bWit : CSs := (.cons (.ret (.op .notin (.cons (.k (.bl false)) (.cons (.lc [2] (.n 2) (.seq (.v 0)) .none (.op .isin (.cons (.v 2) (.cons (.v 1) .nil)))) .nil)))) .nil)
def WitOk (C : WC) (i : Nat) : Prop := ∀ (p c : List Str) (d : D) (Q : Rf → List Sl → Prop), (d = tS c ∨ d = lS c) → p.length ≤ 1000 → (∀ s t, Q (.val (.bl (decide (∀ x ∈ p, x ∈ c)))) [s, t]) → C i [.val (tS p), .val d] Q
theorem wit_ok {C : WC} {p c : List Str} {d : D} {Q : Rf → List Sl → Prop} (hd : d = tS c ∨ d = lS c) (hl : p.length ≤ 1000) (q : ∀ s t, Q (.val (.bl (decide (∀ x ∈ p, x ∈ c)))) [s, t]) : FnW C 2 3 bWit [.val (tS p), .val d] Q := by
  refine ⟨rfl, ?_⟩
  unfold bWit
  have key : (!decide (false ∈ p.map fun x => decide (x ∈ c))) = decide (∀ x ∈ p, x ∈ c) := by
    rw [Bool.eq_iff_iff]
    simp
  rcases hd with rfl | rfl
  · simp [wSs, wS, wT, wE, wEs, wZ, wO, wI, opW, derefs, deref, readW, one, two, lenW, eqW, truthy, toIntW, toListW, toTupW, onI, mtTy, frz, asgT, asgAll, putSl, wipeF, restF, isOwn, argSls, argSl, borrows, giveBack, srcDs, itemsOf, seqItems, srcBors, rfBor, frzSrc, isTmp, inW, isNW, itemsT, indexLW, indexTW, ixW, anyW, allW, addW, slLoW, slHiW, sliceW, augF]
    refine ⟨le_line hl, lcGo_pure (fun d => match d with | .str x => some (.bl (decide (x ∈ c))) | _ => none) rfl (fun x hx => ?_) ?_⟩
    · obtain ⟨y, hy, rfl⟩ := List.mem_map.mp hx
      refine ⟨[.val (tS p), .val (tS c), .val (.str y)], rfl, fun K hK => ?_⟩
      simpa [wSs, wS, wT, wE, wEs, wZ, wO, wI, opW, derefs, deref, readW, one, two, lenW, eqW, truthy, toIntW, toListW, toTupW, onI, mtTy, frz, asgT, asgAll, putSl, wipeF, restF, isOwn, argSls, argSl, borrows, giveBack, srcDs, itemsOf, seqItems, srcBors, rfBor, frzSrc, isTmp, inW, isNW, itemsT, indexLW, indexTW, ixW, anyW, allW, addW, slLoW, slHiW, sliceW, augF] using hK
    · rw [List.nil_append, filterMap_map D.str (fun x => decide (x ∈ c)) D.bl _ fun x => rfl]
      refine ⟨pl30_lb, ?_⟩
      rw [any_bl, key]
      exact q _ _
  · simp [wSs, wS, wT, wE, wEs, wZ, wO, wI, opW, derefs, deref, readW, one, two, lenW, eqW, truthy, toIntW, toListW, toTupW, onI, mtTy, frz, asgT, asgAll, putSl, wipeF, restF, isOwn, argSls, argSl, borrows, giveBack, srcDs, itemsOf, seqItems, srcBors, rfBor, frzSrc, isTmp, inW, isNW, itemsT, indexLW, indexTW, ixW, anyW, allW, addW, slLoW, slHiW, sliceW, augF]
    refine ⟨le_line hl, lcGo_pure (fun d => match d with | .str x => some (.bl (decide (x ∈ c))) | _ => none) rfl (fun x hx => ?_) ?_⟩
    · obtain ⟨y, hy, rfl⟩ := List.mem_map.mp hx
      refine ⟨[.val (tS p), .val (lS c), .val (.str y)], rfl, fun K hK => ?_⟩
      simpa [wSs, wS, wT, wE, wEs, wZ, wO, wI, opW, derefs, deref, readW, one, two, lenW, eqW, truthy, toIntW, toListW, toTupW, onI, mtTy, frz, asgT, asgAll, putSl, wipeF, restF, isOwn, argSls, argSl, borrows, giveBack, srcDs, itemsOf, seqItems, srcBors, rfBor, frzSrc, isTmp, inW, isNW, itemsT, indexLW, indexTW, ixW, anyW, allW, addW, slLoW, slHiW, sliceW, augF] using hK
    · rw [List.nil_append, filterMap_map D.str (fun x => decide (x ∈ c)) D.bl _ fun x => rfl]
      refine ⟨pl30_lb, ?_⟩
      rw [any_bl, key]
      exact q _ _
/-- without(columns, other) -/
def bWto : CSs := (.cons (.ret (.op .toTup (.cons (.lc [2] (.n 2) (.seq (.v 0)) (.some (.op .notin (.cons (.v 2) (.cons (.v 1) .nil)))) (.v 2)) .nil))) .nil)
def wto (p c : List Str) : List Str := p.filter fun x => !decide (x ∈ c)
def WtoOk (C : WC) (i : Nat) : Prop := ∀ (p c : List Str) (Q : Rf → List Sl → Prop), p.length ≤ 1000 → (∀ s t, Q (.val (tS (wto p c))) [s, t]) → C i [.val (tS p), .val (tS c)] Q
theorem filterMap_filter {p : List Str} {g : Str → Bool} (F : D → Option D) (e : ∀ x, F (.str x) = if g x = true then some (.str x) else none) : (p.map D.str).filterMap F = (p.filter g).map D.str := by
  induction p with
  | nil => rfl
  | cons x r ih =>
    rw [List.map_cons, List.filterMap_cons, e, List.filter_cons]
    by_cases h : g x = true
    · simp [h, ih]
    · simp [h, ih]
theorem wto_ok {C : WC} {p c : List Str} {Q : Rf → List Sl → Prop} (hl : p.length ≤ 1000) (q : ∀ s t, Q (.val (tS (wto p c))) [s, t]) : FnW C 2 3 bWto [.val (tS p), .val (tS c)] Q := by
  refine ⟨rfl, ?_⟩
  unfold bWto
  simp [wSs, wS, wT, wE, wEs, wZ, wO, wI, opW, derefs, deref, readW, one, two, lenW, eqW, truthy, toIntW, toListW, toTupW, onI, mtTy, frz, asgT, asgAll, putSl, wipeF, restF, isOwn, argSls, argSl, borrows, giveBack, srcDs, itemsOf, seqItems, srcBors, rfBor, frzSrc, isTmp, inW, isNW, itemsT, indexLW, indexTW, ixW, anyW, allW, addW, slLoW, slHiW, sliceW, augF]
  refine ⟨le_line hl, lcGo_pure (fun d => match d with | .str x => if (!decide (x ∈ c)) = true then some (.str x) else none | _ => none) rfl (fun x hx => ?_) ?_⟩
  · obtain ⟨y, hy, rfl⟩ := List.mem_map.mp hx
    refine ⟨[.val (tS p), .val (tS c), .val (.str y)], rfl, fun K hK => ?_⟩
    by_cases hy : y ∈ c
    · simp [wSs, wS, wT, wE, wEs, wZ, wO, wI, opW, derefs, deref, readW, one, two, lenW, eqW, truthy, toIntW, toListW, toTupW, onI, mtTy, frz, asgT, asgAll, putSl, wipeF, restF, isOwn, argSls, argSl, borrows, giveBack, srcDs, itemsOf, seqItems, srcBors, rfBor, frzSrc, isTmp, inW, isNW, itemsT, indexLW, indexTW, ixW, anyW, allW, addW, slLoW, slHiW, sliceW, augF]
      rw [if_neg fun h => h y hy rfl]
      simpa [hy] using hK
    · simp [wSs, wS, wT, wE, wEs, wZ, wO, wI, opW, derefs, deref, readW, one, two, lenW, eqW, truthy, toIntW, toListW, toTupW, onI, mtTy, frz, asgT, asgAll, putSl, wipeF, restF, isOwn, argSls, argSl, borrows, giveBack, srcDs, itemsOf, seqItems, srcBors, rfBor, frzSrc, isTmp, inW, isNW, itemsT, indexLW, indexTW, ixW, anyW, allW, addW, slLoW, slHiW, sliceW, augF]
      rw [if_pos fun (a : Str) ha (e : a = y) => hy (e ▸ ha)]
      simpa [hy] using hK
  · rw [List.nil_append, filterMap_filter (g := fun x => !decide (x ∈ c)) _ fun x => rfl]
    exact q _ _
/-- the columns rise, each once -/
def Srt (l : List Str) : Prop := l.Pairwise (fun a b => ¬ sg b < sg a) ∧ l.Nodup
def bUni : CSs := (.cons (.ret (.op .toTup (.cons (.ssc [2] (.n 2) (.seq (.op .add (.cons (.v 0) (.cons (.v 1) .nil)))) .none (.v 2)) .nil))) .nil)
def UniOk (C : WC) (i : Nat) : Prop := ∀ (a b : List Str) (Q : Rf → List Sl → Prop), a.length + b.length ≤ 1000 → (∀ (ys : List Str) s t, Srt ys → (∀ x, x ∈ ys ↔ x ∈ a ∨ x ∈ b) → Q (.val (tS ys)) [s, t]) → C i [.val (tS a), .val (tS b)] Q
theorem uni_ok {C : WC} {a b : List Str} {Q : Rf → List Sl → Prop} (hl : a.length + b.length ≤ 1000) (q : ∀ (ys : List Str) s t, Srt ys → (∀ x, x ∈ ys ↔ x ∈ a ∨ x ∈ b) → Q (.val (tS ys)) [s, t]) : FnW C 2 3 bUni [.val (tS a), .val (tS b)] Q := by
  refine ⟨rfl, ?_⟩
  unfold bUni
  simp [wSs, wS, wT, wE, wEs, wZ, wO, wI, opW, derefs, deref, readW, one, two, lenW, eqW, truthy, toIntW, toListW, toTupW, onI, mtTy, frz, asgT, asgAll, putSl, wipeF, restF, isOwn, argSls, argSl, borrows, giveBack, srcDs, itemsOf, seqItems, srcBors, rfBor, frzSrc, isTmp, inW, isNW, itemsT, indexLW, indexTW, ixW, anyW, allW, addW, slLoW, slHiW, sliceW, augF]
  refine ⟨le_line hl, hl, ?_⟩
  rw [← List.map_append]
  refine lcGo_pure (fun d => some d) rfl (fun x hx => ?_) ?_
  · obtain ⟨y, hy, rfl⟩ := List.mem_map.mp hx
    refine ⟨[.val (tS a), .val (tS b), .val (.str y)], rfl, fun K hK => ?_⟩
    simpa [wSs, wS, wT, wE, wEs, wZ, wO, wI, opW, derefs, deref, readW, one, two, lenW, eqW, truthy, toIntW, toListW, toTupW, onI, mtTy, frz, asgT, asgAll, putSl, wipeF, restF, isOwn, argSls, argSl, borrows, giveBack, srcDs, itemsOf, seqItems, srcBors, rfBor, frzSrc, isTmp, inW, isNW, itemsT, indexLW, indexTW, ixW, anyW, allW, addW, slLoW, slHiW, sliceW, augF] using hK
  · refine ⟨a ++ b, by rw [List.nil_append, show (fun d => some d) = (some : D → Option D) from rfl, List.filterMap_some]; exact strsD_map, fun ys h1 h2 h3 => ?_⟩
    simp [wSs, wS, wT, wE, wEs, wZ, wO, wI, opW, derefs, deref, readW, one, two, lenW, eqW, truthy, toIntW, toListW, toTupW, onI, mtTy, frz, asgT, asgAll, putSl, wipeF, restF, isOwn, argSls, argSl, borrows, giveBack, srcDs, itemsOf, seqItems, srcBors, rfBor, frzSrc, isTmp, inW, isNW, itemsT, indexLW, indexTW, ixW, anyW, allW, addW, slLoW, slHiW, sliceW, augF]
    exact q ys _ _ ⟨h1, h2⟩ fun x => by rw [h3, List.mem_append]
end QL
set_option maxHeartbeats 1500000
/-! MC: closures -/
namespace QL
open PySem L2
abbrev Tie := List Str × List Str
abbrev tieD (t : Tie) : D := .tup [tS t.1, tS t.2]
abbrev tiesD (ts : List Tie) : D := .tup (ts.map tieD)
structure TOk (ts : List Tie) : Prop where
  len : ts.length ≤ 20
  sides : ∀ t ∈ ts, t.1.length ≤ 12 ∧ t.2.length ≤ 12
  nd : ∀ t ∈ ts, t.2.Nodup
/-- what follows -/
inductive Cl (ts : List Tie) (l : List Str) : Str → Prop
  | base {x : Str} : x ∈ l → Cl ts l x
  | step {t : Tie} {x : Str} : t ∈ ts → (∀ y ∈ t.1, Cl ts l y) → x ∈ t.2 → Cl ts l x
theorem cl_of {ts : List Tie} {l k : List Str} (h1 : ∀ x ∈ l, x ∈ k) (h2 : ∀ x ∈ k, Cl ts l x) (hc : ∀ t ∈ ts, (∀ x ∈ t.1, x ∈ k) → ∀ x ∈ t.2, x ∈ k) {x : Str} : x ∈ k ↔ Cl ts l x := by
  refine ⟨h2 x, fun h => ?_⟩
  induction h with
  | base h => exact h1 _ h
  | step ht _ hx ih => exact hc _ ht (fun y hy => ih y hy) _ hx
theorem cl_mono {ts us : List Tie} {l : List Str} (h : ∀ t ∈ ts, t ∈ us) {x : Str} (c : Cl ts l x) : Cl us l x := by
  induction c with
  | base h => exact .base h
  | step ht _ hx ih => exact .step (h _ ht) ih hx
theorem cl_congr {ts us : List Tie} {l : List Str} (h : ∀ t, t ∈ ts ↔ t ∈ us) {x : Str} : Cl ts l x ↔ Cl us l x := ⟨cl_mono fun t => (h t).mp, cl_mono fun t => (h t).mpr⟩
/-- a tie that gains -/
def Gains (t : Tie) (k : List Str) : Prop := wto t.2 k ≠ [] ∧ ∀ x ∈ t.1, x ∈ k
def bNext (w s : Nat) : CSs := (.cons (.for (.t2 2 [3, 4]) (.enum (.v 0)) (.cons (.set (.n 5) (.call w (.cons (.fz (.v 4)) (.cons (.fz (.v 1)) .nil)))) (.cons (.ite (.and (.op .gt (.cons (.op .len (.cons (.v 5) .nil)) (.cons (.k (.int 0)) .nil))) (.call s (.cons (.fz (.v 3)) (.cons (.fz (.v 1)) .nil)))) (.cons (.ret (.tup (.cons (.v 2) (.cons (.v 5) .nil)))) .nil) .nil) .nil))) (.cons (.ret (.k .non)) .nil))
def NextOk (C : WC) (i : Nat) : Prop := ∀ (ts : List Tie) (k : List Str) (Q : Rf → List Sl → Prop), TOk ts → ((∀ t ∈ ts, ¬ Gains t k) → ∀ a b, Q (.val .non) [a, b]) → (∀ (t : Tie) (j : Int) a b, t ∈ ts → Gains t k → Q (.val (.tup [.int j, tS (wto t.2 k)])) [a, b]) → C i [.val (tiesD ts), .val (tS k)] Q
theorem enumD_map {α : Type} (f : α → D) : ∀ (xs : List α) (k : Nat), enumD k (xs.map f) = (List.range' k xs.length).zipWith (fun i d => D.tup [.int (i : Nat), d]) (xs.map f)
  | [], k => rfl
  | x :: r, k => by
    show D.tup [.int k, f x] :: enumD (k + 1) (r.map f) = _
    rw [enumD_map f r (k + 1)]
    rfl
theorem next_ok {C : WC} {w s : Nat} (hw : WtoOk C w) (hs : SubOk C s) {ts : List Tie} {k : List Str} {Q : Rf → List Sl → Prop} (ht : TOk ts) (q0 : (∀ t ∈ ts, ¬ Gains t k) → ∀ a b, Q (.val .non) [a, b])
    (q1 : ∀ (t : Tie) (j : Int) a b, t ∈ ts → Gains t k → Q (.val (.tup [.int j, tS (wto t.2 k)])) [a, b]) : FnW C 2 6 (bNext w s) [.val (tiesD ts), .val (tS k)] Q := by
  refine ⟨rfl, ?_⟩
  unfold bNext
  simp [wSs, wS, wT, wE, wEs, wZ, wO, wI, opW, derefs, deref, readW, one, two, lenW, eqW, truthy, toIntW, toListW, toTupW, onI, mtTy, frz, asgT, asgAll, putSl, wipeF, restF, isOwn, argSls, argSl, borrows, giveBack, srcDs, itemsOf, seqItems, srcBors, rfBor, frzSrc, isTmp, inW, isNW, itemsT, indexLW, indexTW, ixW, anyW, allW, addW, slLoW, slHiW, sliceW, augF]
  refine forGo_inv (I := fun xs fr => ∃ (us : List Tie) (j : Nat), xs = enumD j (us.map tieD) ∧ (∀ t ∈ us, t ∈ ts) ∧ (∀ t ∈ ts, t ∉ us → ¬ Gains t k) ∧
      (fr = [.val (tiesD ts), .val (tS k), .none, .none, .none, .none] ∨ ∃ a b c d, fr = [.val (tiesD ts), .val (tS k), .val a, .val b, .val c, .val d])) ?_ ?_ ⟨ts, 0, rfl, fun _ z => z, fun t h1 h2 => absurd h1 h2, .inl rfl⟩
  · rintro x r fr ⟨us, j, ex, hin, hno, hf⟩
    cases us with
    | nil => cases ex
    | cons t us =>
      have ex : x :: r = D.tup [.int j, tieD t] :: enumD (j + 1) (us.map tieD) := ex
      cases ex
      have tt := hin t List.mem_cons_self
      have sd := ht.sides t tt
      rcases hf with rfl | ⟨a, b, c, d, rfl⟩ <;>
      · refine ⟨[.val (tiesD ts), .val (tS k), .val (.int j), .val (tS t.1), .val (tS t.2), _], rfl, fun nx hnx => ?_⟩
        simp [wSs, wS, wT, wE, wEs, wZ, wO, wI, opW, derefs, deref, readW, one, two, lenW, eqW, truthy, toIntW, toListW, toTupW, onI, mtTy, frz, asgT, asgAll, putSl, wipeF, restF, isOwn, argSls, argSl, borrows, giveBack, srcDs, itemsOf, seqItems, srcBors, rfBor, frzSrc, isTmp, inW, isNW, itemsT, indexLW, indexTW, ixW, anyW, allW, addW, slLoW, slHiW, sliceW, augF]
        refine hw _ _ _ (by omega) fun s1 s2 => ?_
        simp [wSs, wS, wT, wE, wEs, wZ, wO, wI, opW, derefs, deref, readW, one, two, lenW, eqW, truthy, toIntW, toListW, toTupW, onI, mtTy, frz, asgT, asgAll, putSl, wipeF, restF, isOwn, argSls, argSl, borrows, giveBack, srcDs, itemsOf, seqItems, srcBors, rfBor, frzSrc, isTmp, inW, isNW, itemsT, indexLW, indexTW, ixW, anyW, allW, addW, slLoW, slHiW, sliceW, augF, gtW]
        have fin : ¬ Gains t k → nx [.val (tiesD ts), .val (tS k), .val (.int j), .val (tS t.1), .val (tS t.2), .val (tS (wto t.2 k))] := fun ng =>
          hnx _ ⟨us, j + 1, rfl, fun u hu => hin u (List.mem_cons_of_mem _ hu), fun u h1 h2 => by
            by_cases e : u = t
            · rw [e]; exact ng
            · exact hno u h1 fun z => (List.mem_cons.1 z).elim e h2, .inr ⟨_, _, _, _, rfl⟩⟩
        by_cases h0 : 0 < (wto t.2 k).length
        · rw [if_pos h0]
          refine hs _ _ _ (by omega) fun s3 s4 => ?_
          simp [wSs, wS, wT, wE, wEs, wZ, wO, wI, opW, derefs, deref, readW, one, two, lenW, eqW, truthy, toIntW, toListW, toTupW, onI, mtTy, frz, asgT, asgAll, putSl, wipeF, restF, isOwn, argSls, argSl, borrows, giveBack, srcDs, itemsOf, seqItems, srcBors, rfBor, frzSrc, isTmp, inW, isNW, itemsT, indexLW, indexTW, ixW, anyW, allW, addW, slLoW, slHiW, sliceW, augF]
          by_cases h1 : ∀ x ∈ t.1, x ∈ k
          · rw [if_pos h1]
            exact ⟨le_line (by decide), q1 t j _ _ tt ⟨List.length_pos_iff.mp h0, h1⟩⟩
          · rw [if_neg h1]
            exact fin fun g => h1 g.2
        · rw [if_neg h0]
          exact fin fun g => h0 (List.length_pos_iff.mpr g.1)
  · rintro fr ⟨us, j, ex, hin, hno, hf⟩
    cases us with
    | cons t us => cases ex
    | nil =>
      have hq := q0 fun t ht => hno t ht (by simp)
      rcases hf with rfl | ⟨a, b, c, d, rfl⟩ <;>
      · simp [wSs, wS, wT, wE, wEs, wZ, wO, wI, opW, derefs, deref, readW, one, two, lenW, eqW, truthy, toIntW, toListW, toTupW, onI, mtTy, frz, asgT, asgAll, putSl, wipeF, restF, isOwn, argSls, argSl, borrows, giveBack, srcDs, itemsOf, seqItems, srcBors, rfBor, frzSrc, isTmp, inW, isNW, itemsT, indexLW, indexTW, ixW, anyW, allW, addW, slLoW, slHiW, sliceW, augF]
        exact hq _ _
theorem nodup_len {α : Type} [DecidableEq α] : ∀ {l m : List α}, l.Nodup → (∀ x ∈ l, x ∈ m) → l.length ≤ m.length
  | [], m, _, _ => Nat.zero_le _
  | a :: l, m, nd, hs => by
    obtain ⟨na, nl⟩ := List.nodup_cons.mp nd
    have ha := hs a List.mem_cons_self
    have p := List.perm_cons_erase ha
    have h := nodup_len (m := m.erase a) nl fun x hx => by
      rcases List.mem_cons.1 (p.mem_iff.mp (hs x (List.mem_cons_of_mem _ hx))) with z | z
      · exact absurd (z ▸ hx) na
      · exact z
    have e := p.length_eq
    simp only [List.length_cons] at e ⊢
    omega
/-- all right columns -/
abbrev rights (ts : List Tie) : List Str := ts.flatMap fun t => t.2
theorem rights_len {ts : List Tie} (h : ∀ t ∈ ts, t.1.length ≤ 12 ∧ t.2.length ≤ 12) : (rights ts).length ≤ ts.length * 12 := by
  induction ts with
  | nil => simp
  | cons t r ih =>
    have h1 := (h t List.mem_cons_self).2
    have h2 := ih fun u hu => h u (List.mem_cons_of_mem _ hu)
    simp only [rights, List.flatMap_cons, List.length_append, List.length_cons] at *
    omega
theorem TOk.rl {ts : List Tie} (h : TOk ts) : (rights ts).length ≤ 240 := by
  have h1 := rights_len h.sides
  have h2 := h.len
  omega
theorem cl_in {ts : List Tie} {l : List Str} {x : Str} (h : Cl ts l x) : x ∈ l ++ rights ts := by
  cases h with
  | base h => exact List.mem_append_left _ h
  | step ht _ hx => exact List.mem_append_right _ (List.mem_flatMap.mpr ⟨_, ht, hx⟩)
abbrev gD (g : Int × List Str) : D := .tup [.int g.1, tS g.2]
def GainsOk (C : WC) (i : Nat) : Prop := ∀ (ts : List Tie) (l : List Str) (Q : Rf → List Sl → Prop), TOk ts → l.length ≤ 100 →
  (∀ (gs : List (Int × List Str)) a b, gs.length ≤ 240 → (∀ g ∈ gs, g.2.length ≤ 12) → (∀ x, (x ∈ l ∨ ∃ g ∈ gs, x ∈ g.2) ↔ Cl ts l x) → Q (.tmp (.lst (gs.map gD))) [a, b]) → C i [.val (tiesD ts), .val (tS l)] Q
def bGainsB (n u : Nat) : CSs := (.cons (.ex (.mt .append (.v 3) (.cons (.fz (.v 4)) .nil))) (.cons (.set (.n 2) (.call u (.cons (.fz (.v 2)) (.cons (.fz (.op .ix (.cons (.v 4) (.cons (.k (.int 1)) .nil)))) .nil)))) (.cons (.set (.n 4) (.call n (.cons (.fz (.v 0)) (.cons (.fz (.v 2)) .nil)))) .nil)))
def bGainsW (n u : Nat) : CS := .whl (.op .notN (.cons (.v 4) .nil)) (bGainsB n u)
def bGains (n u : Nat) : CSs := (.cons (.set (.n 2) (.v 1)) (.cons (.set (.n 3) (.lst .nil)) (.cons (.set (.n 4) (.call n (.cons (.fz (.v 0)) (.cons (.fz (.v 2)) .nil)))) (.cons (bGainsW n u) (.cons (.ret (.v 3)) .nil)))))
/-- right columns that are not known -/
def unk (ts : List Tie) (k : List Str) : Nat := ((rights ts).filter fun x => !decide (x ∈ k)).length
theorem filter_lt {α : Type} {p q : α → Bool} : ∀ {l : List α}, (∀ x ∈ l, q x = true → p x = true) → (∃ x ∈ l, p x = true ∧ q x = false) → (l.filter q).length < (l.filter p).length
  | [], _, ⟨x, h, _⟩ => by cases h
  | a :: l, h, ⟨x, hx, h1, h2⟩ => by
    have le : (l.filter q).length ≤ (l.filter p).length := by
      clear hx
      induction l with
      | nil => simp
      | cons b l ih =>
        have ihl := ih fun y hy => h y (by rcases List.mem_cons.1 hy with z | z <;> simp [z])
        have hb := h b (by simp)
        (rw [List.filter_cons, List.filter_cons])
        by_cases e : q b = true
        · rw [if_pos e, if_pos (hb e)]; simpa using ihl
        · rw [if_neg e]
          split
          · (simp only [List.length_cons]; omega)
          · exact ihl
    (rw [List.filter_cons, List.filter_cons])
    rcases List.mem_cons.1 hx with rfl | hx
    · rw [if_pos h1, if_neg (by rw [h2]; simp)]
      (simp only [List.length_cons]; omega)
    · have lt := filter_lt (l := l) (fun y hy => h y (List.mem_cons_of_mem _ hy)) ⟨x, hx, h1, h2⟩
      have ha := h a List.mem_cons_self
      by_cases e : q a = true
      · rw [if_pos e, if_pos (ha e)]; simpa using lt
      · rw [if_neg e]
        split
        · (simp only [List.length_cons]; omega)
        · exact lt
theorem mem_wto {x : Str} {p c : List Str} : x ∈ wto p c ↔ x ∈ p ∧ x ∉ c := by
  unfold wto
  rw [List.mem_filter]
  simp
theorem unk_lt {ts : List Tie} {t : Tie} {k k2 : List Str} (ht : t ∈ ts) (g : Gains t k) (h : ∀ x, x ∈ k2 ↔ x ∈ k ∨ x ∈ wto t.2 k) : unk ts k2 < unk ts k := by
  obtain ⟨x, hx⟩ := List.exists_mem_of_ne_nil _ g.1
  have hx' := mem_wto.mp hx
  refine filter_lt (fun y _ e => ?_) ⟨x, List.mem_flatMap.mpr ⟨t, ht, hx'.1⟩, by simpa using hx'.2, by simpa using (h x).mpr (.inr hx)⟩
  simp only [Bool.not_eq_true', decide_eq_false_iff_not] at e ⊢
  exact fun z => e ((h y).mpr (.inl z))
structure Kn (ts : List Tie) (l k : List Str) (gs : List (Int × List Str)) : Prop where
  mem : ∀ x, x ∈ k ↔ x ∈ l ∨ ∃ g ∈ gs, x ∈ g.2
  cl : ∀ x ∈ k, Cl ts l x
  sh : k = l ∨ k.Nodup
  gl : ∀ g ∈ gs, g.2.length ≤ 12
  cnt : gs.length + unk ts k ≤ 240
theorem Kn.len {ts : List Tie} {l k : List Str} {gs : List (Int × List Str)} (h : Kn ts l k gs) (ht : TOk ts) (hl : l.length ≤ 100) : k.length ≤ 340 := by
  rcases h.sh with e | e
  · rw [e]; omega
  · have := nodup_len e fun x hx => cl_in (h.cl x hx)
    have h2 := ht.rl
    rw [List.length_append] at this
    omega
theorem Kn.next {ts : List Tie} {l k k2 : List Str} {gs : List (Int × List Str)} {t : Tie} {j : Int} (h : Kn ts l k gs) (tk : TOk ts) (ht : t ∈ ts) (g : Gains t k) (hm : ∀ x, x ∈ k2 ↔ x ∈ k ∨ x ∈ wto t.2 k) (s : Srt k2) : Kn ts l k2 (gs ++ [(j, wto t.2 k)]) where
  mem := fun x => by
    rw [hm, h.mem]
    simp only [List.mem_append, List.mem_singleton]
    constructor
    · rintro ((z | ⟨g, z1, z2⟩) | z)
      · exact .inl z
      · exact .inr ⟨g, .inl z1, z2⟩
      · exact .inr ⟨_, .inr rfl, z⟩
    · rintro (z | ⟨g, z1 | rfl, z2⟩)
      · exact .inl (.inl z)
      · exact .inl (.inr ⟨g, z1, z2⟩)
      · exact .inr z2
  cl := fun x hx => by
    rcases (hm x).mp hx with z | z
    · exact h.cl x z
    · exact .step ht (fun y hy => h.cl y (g.2 y hy)) (mem_wto.mp z).1
  sh := .inr s.2
  gl := fun x hx => by
    rcases List.mem_append.mp hx with z | z
    · exact h.gl x z
    · cases List.mem_singleton.mp z
      exact Nat.le_trans (List.length_filter_le ..) (tk.sides t ht).2
  cnt := by
    have h1 := unk_lt ht g hm
    have h2 := h.cnt
    rw [List.length_append]
    simp only [List.length_singleton]
    omega
theorem gains_ok {C : WC} {n u : Nat} (hn : NextOk C n) (hu : UniOk C u) {ts : List Tie} {l : List Str} {Q : Rf → List Sl → Prop} (ht : TOk ts) (hl : l.length ≤ 100)
    (q : ∀ (gs : List (Int × List Str)) a b, gs.length ≤ 240 → (∀ g ∈ gs, g.2.length ≤ 12) → (∀ x, (x ∈ l ∨ ∃ g ∈ gs, x ∈ g.2) ↔ Cl ts l x) → Q (.tmp (.lst (gs.map gD))) [a, b]) : FnW C 2 5 (bGains n u) [.val (tiesD ts), .val (tS l)] Q := by
  refine ⟨rfl, ?_⟩
  have start : Kn ts l l [] := ⟨fun x => by simp, fun x hx => .base hx, .inl rfl, (fun g z => (by cases z)), by
    have := ht.rl
    have h2 := List.length_filter_le (fun x => !decide (x ∈ l)) (rights ts)
    unfold unk
    simp only [List.length_nil]
    omega⟩
  let I : Nat → Fr → Prop := fun m fr => ∃ (k : List Str) (gs : List (Int × List Str)) (g : D), m = unk ts k ∧ Kn ts l k gs ∧ fr = [.val (tiesD ts), .val (tS l), .val (tS k), .own false (.lst (gs.map gD)), .val g] ∧
    ((g = .non ∧ ∀ t ∈ ts, ¬ Gains t k) ∨ ∃ (t : Tie) (j : Int), g = .tup [.int j, tS (wto t.2 k)] ∧ t ∈ ts ∧ Gains t k)
  have loop : ∀ {m fr}, I m fr → wS C (bGainsW n u) fr { nx := fun fr' => wSs C (.cons (.ret (.v 3)) .nil) fr' { nx := fun fr => Q (.val .non) (outF 2 fr), rt := fun r fr => Q r (outF 2 fr) }, rt := fun r fr => Q r (outF 2 fr) } := fun {m fr} i => by
    refine whl_inv I (fun m fr hI nx hnx => ?_) i
    obtain ⟨k, gs, g, rfl, kn, rfl, hg⟩ := hI
    have kl := kn.len ht hl
    rcases hg with ⟨rfl, hno⟩ | ⟨t, j, rfl, tt, g⟩
    · simp [wSs, wS, wT, wE, wEs, wZ, wO, wI, opW, derefs, deref, readW, one, two, lenW, eqW, truthy, toIntW, toListW, toTupW, onI, mtTy, frz, asgT, asgAll, putSl, wipeF, restF, isOwn, argSls, argSl, borrows, giveBack, srcDs, itemsOf, seqItems, srcBors, rfBor, frzSrc, isTmp, inW, isNW, itemsT, indexLW, indexTW, ixW, anyW, allW, addW, slLoW, slHiW, sliceW, augF]
      refine q gs _ _ (by have := kn.cnt; omega) kn.gl fun x => ?_
      rw [← kn.mem]
      exact cl_of (fun y hy => (kn.mem y).mpr (.inl hy)) kn.cl fun t ht h1 y hy => Classical.byContradiction fun ny => hno t ht ⟨List.ne_nil_of_mem (mem_wto.mpr ⟨hy, ny⟩), h1⟩
    · simp [wSs, wS, wT, wE, wEs, wZ, wO, wI, opW, derefs, deref, readW, one, two, lenW, eqW, truthy, toIntW, toListW, toTupW, onI, mtTy, frz, asgT, asgAll, putSl, wipeF, restF, isOwn, argSls, argSl, borrows, giveBack, srcDs, itemsOf, seqItems, srcBors, rfBor, frzSrc, isTmp, inW, isNW, itemsT, indexLW, indexTW, ixW, anyW, allW, addW, slLoW, slHiW, sliceW, augF, bGainsB]
      refine ⟨Nat.lt_of_le_of_lt (show gs.length ≤ 240 by have := kn.cnt; omega) (small1000 (by decide)), ?_⟩
      have ew : atI [D.int j, tS (wto t.2 k)] 1 = some (tS (wto t.2 k)) := rfl
      simp [ew]
      have wl : (wto t.2 k).length ≤ 12 := Nat.le_trans (List.length_filter_le ..) (ht.sides t tt).2
      refine hu _ _ _ (by omega) fun ys s1 s2 sy hy => ?_
      simp [wSs, wS, wT, wE, wEs, wZ, wO, wI, opW, derefs, deref, readW, one, two, lenW, eqW, truthy, toIntW, toListW, toTupW, onI, mtTy, frz, asgT, asgAll, putSl, wipeF, restF, isOwn, argSls, argSl, borrows, giveBack, srcDs, itemsOf, seqItems, srcBors, rfBor, frzSrc, isTmp, inW, isNW, itemsT, indexLW, indexTW, ixW, anyW, allW, addW, slLoW, slHiW, sliceW, augF]
      have kn2 := kn.next (j := j) ht tt g hy sy
      have lt := unk_lt tt g hy
      refine hn _ _ _ ht (fun hno s3 s4 => ?_) fun t2 j2 s3 s4 h1 h2 => ?_
      · simp [wSs, wS, wT, wE, wEs, wZ, wO, wI, opW, derefs, deref, readW, one, two, lenW, eqW, truthy, toIntW, toListW, toTupW, onI, mtTy, frz, asgT, asgAll, putSl, wipeF, restF, isOwn, argSls, argSl, borrows, giveBack, srcDs, itemsOf, seqItems, srcBors, rfBor, frzSrc, isTmp, inW, isNW, itemsT, indexLW, indexTW, ixW, anyW, allW, addW, slLoW, slHiW, sliceW, augF]
        exact hnx _ _ lt ⟨ys, _, .non, rfl, kn2, by simp, .inl ⟨rfl, hno⟩⟩
      · simp [wSs, wS, wT, wE, wEs, wZ, wO, wI, opW, derefs, deref, readW, one, two, lenW, eqW, truthy, toIntW, toListW, toTupW, onI, mtTy, frz, asgT, asgAll, putSl, wipeF, restF, isOwn, argSls, argSl, borrows, giveBack, srcDs, itemsOf, seqItems, srcBors, rfBor, frzSrc, isTmp, inW, isNW, itemsT, indexLW, indexTW, ixW, anyW, allW, addW, slLoW, slHiW, sliceW, augF]
        exact hnx _ _ lt ⟨ys, _, _, rfl, kn2, by simp, .inr ⟨t2, j2, rfl, h1, h2⟩⟩
  unfold bGains
  simp only [wSs, wS, wT, wE, wEs, wZ, wO, wI, opW, derefs, deref, readW, one, two, lenW, eqW, truthy, toIntW, toListW, toTupW, onI, mtTy, frz, asgT, asgAll, putSl, wipeF, restF, isOwn, argSls, argSl, borrows, giveBack, srcDs, itemsOf, seqItems, srcBors, rfBor, frzSrc, isTmp, inW, isNW, itemsT, indexLW, indexTW, ixW, anyW, allW, addW, slLoW, slHiW, sliceW, augF]
  simp
  refine hn _ _ _ ht (fun hno s3 s4 => ?_) fun t2 j2 s3 s4 h1 h2 => ?_
  · simp only [wSs, wS, wT, wE, wEs, wZ, wO, wI, opW, derefs, deref, readW, one, two, lenW, eqW, truthy, toIntW, toListW, toTupW, onI, mtTy, frz, asgT, asgAll, putSl, wipeF, restF, isOwn, argSls, argSl, borrows, giveBack, srcDs, itemsOf, seqItems, srcBors, rfBor, frzSrc, isTmp, inW, isNW, itemsT, indexLW, indexTW, ixW, anyW, allW, addW, slLoW, slHiW, sliceW, augF]
    simp
    exact loop ⟨l, [], .non, rfl, start, rfl, .inl ⟨rfl, hno⟩⟩
  · simp only [wSs, wS, wT, wE, wEs, wZ, wO, wI, opW, derefs, deref, readW, one, two, lenW, eqW, truthy, toIntW, toListW, toTupW, onI, mtTy, frz, asgT, asgAll, putSl, wipeF, restF, isOwn, argSls, argSl, borrows, giveBack, srcDs, itemsOf, seqItems, srcBors, rfBor, frzSrc, isTmp, inW, isNW, itemsT, indexLW, indexTW, ixW, anyW, allW, addW, slLoW, slHiW, sliceW, augF]
    simp
    exact loop ⟨l, [], _, rfl, start, rfl, .inr ⟨t2, j2, rfl, h1, h2⟩⟩
end QL
set_option maxHeartbeats 1500000
/-! MD: closures, second part -/
namespace QL
open PySem L2
def bCloB (u : Nat) : CSs := (.cons (.set (.n 3) (.call u (.cons (.fz (.v 3)) (.cons (.fz (.v 5)) .nil)))) .nil)
def bCloF (g u : Nat) : CS := .for (.t [4, 5]) (.seq (.call g (.cons (.fz (.v 1)) (.cons (.fz (.v 2)) .nil)))) (bCloB u)
def bClo (g u : Nat) : CSs := (.cons (.set (.n 3) (.v 2)) (.cons (bCloF g u) (.cons (.ret (.v 3)) .nil)))
def CloOk (C : WC) (i : Nat) : Prop := ∀ (d : D) (ts : List Tie) (l : List Str) (Q : Rf → List Sl → Prop), TOk ts → l.length ≤ 100 →
  (∀ (fs : List Str) a b c, (fs = l ∨ Srt fs) → (∀ x, x ∈ fs ↔ Cl ts l x) → Q (.val (tS fs)) [a, b, c]) → C i [.val d, .val (tiesD ts), .val (tS l)] Q
theorem clo_ok {C : WC} {g u : Nat} (hg : GainsOk C g) (hu : UniOk C u) {d : D} {ts : List Tie} {l : List Str} {Q : Rf → List Sl → Prop} (ht : TOk ts) (hl : l.length ≤ 100)
    (q : ∀ (fs : List Str) a b c, (fs = l ∨ Srt fs) → (∀ x, x ∈ fs ↔ Cl ts l x) → Q (.val (tS fs)) [a, b, c]) : FnW C 3 6 (bClo g u) [.val d, .val (tiesD ts), .val (tS l)] Q := by
  refine ⟨rfl, ?_⟩
  unfold bClo
  simp only [wSs, wS, wT, wE, wEs, wZ, wO, wI, opW, derefs, deref, readW, one, two, lenW, eqW, truthy, toIntW, toListW, toTupW, onI, mtTy, frz, asgT, asgAll, putSl, wipeF, restF, isOwn, argSls, argSl, borrows, giveBack, srcDs, itemsOf, seqItems, srcBors, rfBor, frzSrc, isTmp, inW, isNW, itemsT, indexLW, indexTW, ixW, anyW, allW, addW, slLoW, slHiW, sliceW, augF]
  simp
  unfold bCloF
  simp only [wSs, wS, wT, wE, wEs, wZ, wO, wI, opW, derefs, deref, readW, one, two, lenW, eqW, truthy, toIntW, toListW, toTupW, onI, mtTy, frz, asgT, asgAll, putSl, wipeF, restF, isOwn, argSls, argSl, borrows, giveBack, srcDs, itemsOf, seqItems, srcBors, rfBor, frzSrc, isTmp, inW, isNW, itemsT, indexLW, indexTW, ixW, anyW, allW, addW, slLoW, slHiW, sliceW, augF]
  simp
  refine hg _ _ _ ht hl fun gs a b h1 h2 h3 => ?_
  simp only [wSs, wS, wT, wE, wEs, wZ, wO, wI, opW, derefs, deref, readW, one, two, lenW, eqW, truthy, toIntW, toListW, toTupW, onI, mtTy, frz, asgT, asgAll, putSl, wipeF, restF, isOwn, argSls, argSl, borrows, giveBack, srcDs, itemsOf, seqItems, srcBors, rfBor, frzSrc, isTmp, inW, isNW, itemsT, indexLW, indexTW, ixW, anyW, allW, addW, slLoW, slHiW, sliceW, augF]
  simp
  refine forGo_inv (I := fun xs fr => ∃ (rs ps : List (Int × List Str)) (f : List Str), xs = rs.map gD ∧ gs = ps ++ rs ∧ (f = l ∨ Srt f) ∧ (∀ x, x ∈ f ↔ x ∈ l ∨ ∃ g ∈ ps, x ∈ g.2) ∧
      (fr = [.val d, .val (tiesD ts), .val (tS l), .val (tS f), .none, .none] ∨ ∃ a b, fr = [.val d, .val (tiesD ts), .val (tS l), .val (tS f), .val a, .val b])) ?_ ?_ ⟨gs, [], l, rfl, rfl, .inl rfl, fun x => by simp, .inl rfl⟩
  · rintro x r fr ⟨rs, ps, f, ex, eg, hf, hm, hfr⟩
    cases rs with
    | nil => cases ex
    | cons g rs =>
      cases ex
      have gi : g ∈ gs := by rw [eg]; simp
      have fl : f.length ≤ 340 := by
        rcases hf with e | e
        · rw [e]; omega
        · have hh := nodup_len e.2 fun x hx => cl_in ((h3 x).mp (by
            rcases (hm x).mp hx with z | ⟨g', z1, z2⟩
            · exact .inl z
            · exact .inr ⟨g', by rw [eg]; simp [z1], z2⟩))
          have := ht.rl
          rw [List.length_append] at hh
          omega
      have gl := h2 g gi
      rcases hfr with rfl | ⟨a', b', rfl⟩ <;>
      · refine ⟨[.val d, .val (tiesD ts), .val (tS l), .val (tS f), .val (.int g.1), .val (tS g.2)], rfl, fun nx hnx => ?_⟩
        simp [wSs, wS, wT, wE, wEs, wZ, wO, wI, opW, derefs, deref, readW, one, two, lenW, eqW, truthy, toIntW, toListW, toTupW, onI, mtTy, frz, asgT, asgAll, putSl, wipeF, restF, isOwn, argSls, argSl, borrows, giveBack, srcDs, itemsOf, seqItems, srcBors, rfBor, frzSrc, isTmp, inW, isNW, itemsT, indexLW, indexTW, ixW, anyW, allW, addW, slLoW, slHiW, sliceW, augF, bCloB]
        refine hu _ _ _ (by omega) fun ys s1 s2 sy hy => ?_
        simp [wSs, wS, wT, wE, wEs, wZ, wO, wI, opW, derefs, deref, readW, one, two, lenW, eqW, truthy, toIntW, toListW, toTupW, onI, mtTy, frz, asgT, asgAll, putSl, wipeF, restF, isOwn, argSls, argSl, borrows, giveBack, srcDs, itemsOf, seqItems, srcBors, rfBor, frzSrc, isTmp, inW, isNW, itemsT, indexLW, indexTW, ixW, anyW, allW, addW, slLoW, slHiW, sliceW, augF]
        refine hnx _ ⟨rs, ps ++ [g], ys, rfl, by rw [eg]; simp, .inr sy, fun x => ?_, .inr ⟨_, _, rfl⟩⟩
        rw [hy, hm]
        simp only [List.mem_append, List.mem_singleton]
        constructor
        · rintro ((z | ⟨g', z1, z2⟩) | z)
          · exact .inl z
          · exact .inr ⟨g', .inl z1, z2⟩
          · exact .inr ⟨_, .inr rfl, z⟩
        · rintro (z | ⟨g', z1 | rfl, z2⟩)
          · exact .inl (.inl z)
          · exact .inl (.inr ⟨g', z1, z2⟩)
          · exact .inr z2
  · rintro fr ⟨rs, ps, f, ex, eg, hf, hm, hfr⟩
    cases rs with
    | cons g rs => cases ex
    | nil =>
      have e : gs = ps := by simpa using eg
      subst e
      rcases hfr with rfl | ⟨a', b', rfl⟩ <;>
      · simp [wSs, wS, wT, wE, wEs, wZ, wO, wI, opW, derefs, deref, readW, one, two, lenW, eqW, truthy, toIntW, toListW, toTupW, onI, mtTy, frz, asgT, asgAll, putSl, wipeF, restF, isOwn, argSls, argSl, borrows, giveBack, srcDs, itemsOf, seqItems, srcBors, rfBor, frzSrc, isTmp, inW, isNW, itemsT, indexLW, indexTW, ixW, anyW, allW, addW, slLoW, slHiW, sliceW, augF]
        exact q f _ _ _ hf fun x => (hm x).trans (h3 x)
def bFol (s c : Nat) : CSs := (.cons (.set (.t [3, 4]) (.v 2)) (.cons (.ret (.call s (.cons (.fz (.v 4)) (.cons (.fz (.call c (.cons (.fz (.v 0)) (.cons (.fz (.v 1)) (.cons (.fz (.v 3)) .nil))))) .nil)))) .nil))
open Classical in
noncomputable def fol (ts : List Tie) (t : Tie) : Bool := decide (∀ x ∈ t.2, Cl ts t.1 x)
def FolOk (C : WC) (i : Nat) : Prop := ∀ (d : D) (ts : List Tie) (t : Tie) (Q : Rf → List Sl → Prop), TOk ts → t.1.length ≤ 100 → t.2.length ≤ 1000 → (∀ a b c, Q (.val (.bl (fol ts t))) [a, b, c]) → C i [.val d, .val (tiesD ts), .val (tieD t)] Q
theorem fol_ok {C : WC} {s c : Nat} (hs : SubOk C s) (hc : CloOk C c) {d : D} {ts : List Tie} {t : Tie} {Q : Rf → List Sl → Prop} (ht : TOk ts) (h1 : t.1.length ≤ 100) (h2 : t.2.length ≤ 1000) (q : ∀ a b c, Q (.val (.bl (fol ts t))) [a, b, c]) :
    FnW C 3 5 (bFol s c) [.val d, .val (tiesD ts), .val (tieD t)] Q := by
  refine ⟨rfl, ?_⟩
  unfold bFol
  simp [wSs, wS, wT, wE, wEs, wZ, wO, wI, opW, derefs, deref, readW, one, two, lenW, eqW, truthy, toIntW, toListW, toTupW, onI, mtTy, frz, asgT, asgAll, putSl, wipeF, restF, isOwn, argSls, argSl, borrows, giveBack, srcDs, itemsOf, seqItems, srcBors, rfBor, frzSrc, isTmp, inW, isNW, itemsT, indexLW, indexTW, ixW, anyW, allW, addW, slLoW, slHiW, sliceW, augF]
  refine hc _ _ _ _ ht h1 fun fs a b c hf hm => ?_
  simp only [wSs, wS, wT, wE, wEs, wZ, wO, wI, opW, derefs, deref, readW, one, two, lenW, eqW, truthy, toIntW, toListW, toTupW, onI, mtTy, frz, asgT, asgAll, putSl, wipeF, restF, isOwn, argSls, argSl, borrows, giveBack, srcDs, itemsOf, seqItems, srcBors, rfBor, frzSrc, isTmp, inW, isNW, itemsT, indexLW, indexTW, ixW, anyW, allW, addW, slLoW, slHiW, sliceW, augF]
  simp
  refine hs _ _ _ (by omega) fun s1 s2 => ?_
  simp only [wSs, wS, wT, wE, wEs, wZ, wO, wI, opW, derefs, deref, readW, one, two, lenW, eqW, truthy, toIntW, toListW, toTupW, onI, mtTy, frz, asgT, asgAll, putSl, wipeF, restF, isOwn, argSls, argSl, borrows, giveBack, srcDs, itemsOf, seqItems, srcBors, rfBor, frzSrc, isTmp, inW, isNW, itemsT, indexLW, indexTW, ixW, anyW, allW, addW, slLoW, slHiW, sliceW, augF]
  simp
  have e : decide (∀ x ∈ t.2, x ∈ fs) = fol ts t := by
    unfold fol
    rw [Bool.eq_iff_iff]
    simp [hm]
  rw [e]
  exact q _ _ _
/-! ### the law's own closure -/
def bLcF (w : Nat) : CS := .ite (.call w (.cons (.fz (.op .ix (.cons (.v 5) (.cons (.k (.int 0)) .nil)))) (.cons (.fz (.v 2)) .nil))) (.cons (.set (.n 2) (.op .add (.cons (.v 2) (.cons (.lc [6] (.n 6) (.seq (.op .ix (.cons (.v 5) (.cons (.k (.int 1)) .nil)))) (.some (.op .notin (.cons (.v 6) (.cons (.v 2) .nil)))) (.v 6)) .nil)))) .nil) .nil
def bLcI (w : Nat) : CS := .for (.n 5) (.seq (.v 0)) (.cons (bLcF w) .nil)
def bLcE : CS := .ite (.op .eq (.cons (.op .len (.cons (.v 2) .nil)) (.cons (.v 4) .nil))) (.cons .brk .nil) .nil
def bLcO (w : Nat) : CS := .for (.n 3) (.rng1 (.op .add (.cons (.op .len (.cons (.v 0) .nil)) (.cons (.k (.int 1)) .nil)))) (.cons (.set (.n 4) (.op .len (.cons (.v 2) .nil))) (.cons (bLcI w) (.cons bLcE .nil)))
def bLclo (w : Nat) : CSs := (.cons (.set (.n 2) (.op .toList (.cons (.v 1) .nil))) (.cons (bLcO w) (.cons (.ret (.op .toTup (.cons (.op .sorted (.cons (.v 2) .nil)) .nil))) .nil)))
/-- known columns as they grow along the ties -/
def grow (k : List Str) (t : Tie) : List Str := if ∀ x ∈ t.1, x ∈ k then k ++ wto t.2 k else k
def grows (k : List Str) (ts : List Tie) : List Str := ts.foldl grow k
theorem grow_le {k : List Str} {t : Tie} {x : Str} (h : x ∈ k) : x ∈ grow k t := by
  unfold grow
  split
  · exact List.mem_append_left _ h
  · exact h
theorem grows_le : ∀ {ts : List Tie} {k : List Str} {x : Str}, x ∈ k → x ∈ grows k ts
  | [], _, _, h => h
  | t :: r, k, x, h => grows_le (ts := r) (grow_le h)
theorem grow_len {k : List Str} {t : Tie} : k.length ≤ (grow k t).length := by
  unfold grow
  split
  · rw [List.length_append]; omega
  · exact Nat.le_refl _
theorem grows_len : ∀ {ts : List Tie} {k : List Str}, k.length ≤ (grows k ts).length
  | [], _ => Nat.le_refl _
  | t :: r, k => Nat.le_trans grow_len (grows_len (ts := r))
/-- nothing more: each tie holds -/
theorem grow_same {k : List Str} {t : Tie} (h : (grow k t).length = k.length) : grow k t = k ∧ ((∀ x ∈ t.1, x ∈ k) → ∀ x ∈ t.2, x ∈ k) := by
  unfold grow at h ⊢
  split
  · rename_i c
    rw [if_pos c, List.length_append] at h
    have e : wto t.2 k = [] := List.length_eq_zero_iff.mp (by omega)
    refine ⟨by rw [e, List.append_nil], fun _ x hx => Classical.byContradiction fun nx => ?_⟩
    have := mem_wto.mpr ⟨hx, nx⟩
    rw [e] at this
    cases this
  · rename_i c
    exact ⟨rfl, fun h => absurd h c⟩
theorem grows_same : ∀ {ts : List Tie} {k : List Str}, (grows k ts).length = k.length → grows k ts = k ∧ ∀ t ∈ ts, (∀ x ∈ t.1, x ∈ k) → ∀ x ∈ t.2, x ∈ k
  | [], _, _ => ⟨rfl, fun t h => by cases h⟩
  | t :: r, k, h => by
    have h1 : k.length ≤ (grow k t).length := grow_len
    have h2 : (grow k t).length ≤ (grows (grow k t) r).length := grows_len
    have h : (grows (grow k t) r).length = k.length := h
    obtain ⟨e, c⟩ := grow_same (k := k) (t := t) (by omega)
    have h3 : (grows k r).length = k.length := by rw [← e]; rw [e] at h ⊢; exact h
    obtain ⟨e2, c2⟩ := grows_same h3
    refine ⟨by show grows (grow k t) r = k; rw [e]; exact e2, fun u hu => ?_⟩
    rcases List.mem_cons.1 hu with rfl | hu
    · exact c
    · exact c2 u hu
/-- ties whose right side is not known -/
def open_ (ts : List Tie) (k : List Str) : Nat := (ts.filter fun t => !decide (∀ x ∈ t.2, x ∈ k)).length
theorem grow_lt : ∀ {us : List Tie} {k : List Str}, k.length < (grows k us).length → ∃ t ∈ us, ¬ (∀ x ∈ t.2, x ∈ k) ∧ ∀ x ∈ t.2, x ∈ grows k us
  | [], k, h => absurd h (Nat.lt_irrefl _)
  | t :: r, k, h => by
    have h : k.length < (grows (grow k t) r).length := h
    by_cases c : k.length < (grow k t).length
    · refine ⟨t, List.mem_cons_self, fun z => ?_, fun x hx => grows_le (ts := r) (k := grow k t) ?_⟩
      · unfold grow at c
        split at c
        · have e : wto t.2 k = [] := by
            cases q : wto t.2 k with
            | nil => rfl
            | cons y l =>
              have := mem_wto.mp (show y ∈ wto t.2 k by rw [q]; exact List.mem_cons_self)
              exact absurd (z y this.1) this.2
          rw [e, List.append_nil] at c
          exact absurd c (Nat.lt_irrefl _)
        · exact absurd c (Nat.lt_irrefl _)
      · unfold grow at c ⊢
        split
        · by_cases hk : x ∈ k
          · exact List.mem_append_left _ hk
          · exact List.mem_append_right _ (mem_wto.mpr ⟨hx, hk⟩)
        · rename_i c2
          rw [if_neg c2] at c
          exact absurd c (Nat.lt_irrefl _)
    · have e : grow k t = k := (grow_same (by
        have h1 : k.length ≤ (grow k t).length := grow_len
        omega)).1
      rw [e] at h
      obtain ⟨u, hu, h1, h2⟩ := grow_lt h
      exact ⟨u, List.mem_cons_of_mem _ hu, h1, fun x hx => by show x ∈ grows (grow k t) r; rw [e]; exact h2 x hx⟩
theorem open_lt {ts : List Tie} {k : List Str} (h : k.length < (grows k ts).length) : open_ ts (grows k ts) < open_ ts k := by
  obtain ⟨t, ht, h1, h2⟩ := grow_lt h
  refine filter_lt (fun u _ e => ?_) ⟨t, ht, by simpa using h1, by simpa using h2⟩
  simp only [Bool.not_eq_true', decide_eq_false_iff_not] at e ⊢
  exact fun z => e fun x hx => grows_le (z x hx)
theorem grow_cl {ts : List Tie} {l k : List Str} {t : Tie} (ht : t ∈ ts) (h : ∀ x ∈ k, Cl ts l x) : ∀ x ∈ grow k t, Cl ts l x := by
  intro x hx
  unfold grow at hx
  split at hx
  · rename_i c
    rcases List.mem_append.mp hx with z | z
    · exact h x z
    · exact .step ht (fun y hy => h y (c y hy)) (mem_wto.mp z).1
  · exact h x hx
theorem grow_nd {k : List Str} {t : Tie} (h : k.Nodup) (h2 : t.2.Nodup) : (grow k t).Nodup := by
  unfold grow
  split
  · refine List.nodup_append.mpr ⟨h, h2.filter _, fun a ha b hb e => ?_⟩
    subst e
    exact (mem_wto.mp hb).2 ha
  · exact h
end QL
set_option maxHeartbeats 1500000
/-! ME: the law's own closure -/
namespace QL
open PySem L2
/-- a slot that may be stored in -/
def Free (s : Sl) : Prop := s = .none ∨ ∃ d, s = .val d
theorem free_n : Free .none := .inl rfl
theorem free_v {d : D} : Free (.val d) := .inr ⟨d, rfl⟩
theorem asg_free {fr : Fr} {i : Nat} {s : Sl} {d : D} (e : fr[i]? = some s) (h : Free s) : asgT fr (.n i) d = some (fr.set i (.val d)) := by
  show putSl fr i (.val d) = _
  unfold putSl
  rw [e]
  rcases h with rfl | ⟨x, rfl⟩ <;> rfl
/-- the known columns: frozen or its own -/
def Lo (s : Sl) (k : List Str) : Prop := s = .val (lS k) ∨ s = .own false (lS k)
structure Gr (ts : List Tie) (l k : List Str) : Prop where
  ex : ∃ e, k = l ++ e ∧ e.Nodup ∧ ∀ x ∈ e, x ∈ rights ts
  cl : ∀ x ∈ k, Cl ts l x
  nd : l.Nodup → k.Nodup
theorem Gr.len {ts : List Tie} {l k : List Str} (h : Gr ts l k) (ht : TOk ts) (hl : l.length ≤ 100) : k.length ≤ 340 := by
  obtain ⟨e, rfl, h1, h2⟩ := h.ex
  have := nodup_len h1 h2
  have h3 := ht.rl
  rw [List.length_append]
  omega
theorem Gr.grow {ts : List Tie} {l k : List Str} {t : Tie} (h : Gr ts l k) (ht : TOk ts) (hi : t ∈ ts) : Gr ts l (grow k t) where
  ex := by
    obtain ⟨e, ek, h1, h2⟩ := h.ex
    unfold QL.grow
    split
    · refine ⟨e ++ wto t.2 k, by rw [ek, List.append_assoc], List.nodup_append.mpr ⟨h1, (ht.nd t hi).filter _, fun a ha b hb z => ?_⟩, fun x hx => ?_⟩
      · subst z
        exact (mem_wto.mp hb).2 (by rw [ek]; exact List.mem_append_right _ ha)
      · rcases List.mem_append.mp hx with z | z
        · exact h2 x z
        · exact List.mem_flatMap.mpr ⟨t, hi, (mem_wto.mp z).1⟩
    · exact ⟨e, ek, h1, h2⟩
  cl := grow_cl hi h.cl
  nd := fun n => grow_nd (h.nd n) (ht.nd t hi)
theorem lcF_ok {C : WC} {w : Nat} (hw : WitOk C w) {T L : D} {k : List Str} {s2 s3 s4 : Sl} {t : Tie} {E : En} (h2 : Lo s2 k) (hk : k.length ≤ 340) (ht : t.1.length ≤ 12 ∧ t.2.length ≤ 12)
    (q : ∀ s2, Lo s2 (grow k t) → E.nx [.val T, .val L, s2, s3, s4, .val (tieD t), .none]) : wS C (bLcF w) [.val T, .val L, s2, s3, s4, .val (tieD t), .none] E := by
  have w1 : (wto t.2 k).length ≤ 12 := Nat.le_trans (List.length_filter_le ..) ht.2
  have i0 : atI [tS t.1, tS t.2] 0 = some (tS t.1) := rfl
  have i1 : atI [tS t.1, tS t.2] 1 = some (tS t.2) := rfl
  have rest : ∀ (b : Bool), b = decide (∀ x ∈ t.1, x ∈ k) → wSs C (if b = true then (.cons (.set (.n 2) (.op .add (.cons (.v 2) (.cons (.lc [6] (.n 6) (.seq (.op .ix (.cons (.v 5) (.cons (.k (.int 1)) .nil)))) (.some (.op .notin (.cons (.v 6) (.cons (.v 2) .nil)))) (.v 6)) .nil)))) .nil) else .nil) [.val T, .val L, .val (lS k), s3, s4, .val (tieD t), .none] E := fun b eb => by
    subst eb
    by_cases h : ∀ x ∈ t.1, x ∈ k
    · rw [if_pos (decide_eq_true h)]
      have eg : grow k t = k ++ wto t.2 k := by unfold grow; rw [if_pos h]
      simp [wSs, wS, wT, wE, wEs, wZ, wO, wI, opW, derefs, deref, readW, one, two, lenW, eqW, truthy, toIntW, toListW, toTupW, onI, mtTy, frz, asgT, asgAll, putSl, wipeF, restF, isOwn, argSls, argSl, borrows, giveBack, srcDs, itemsOf, seqItems, srcBors, rfBor, frzSrc, isTmp, inW, isNW, itemsT, indexLW, indexTW, ixW, anyW, allW, addW, slLoW, slHiW, sliceW, augF, i1]
      refine ⟨le_line (by omega), lcGo_pure (fun d => match d with | .str x => if (!decide (x ∈ k)) = true then some (.str x) else none | _ => none) rfl (fun x hx => ?_) ?_⟩
      · obtain ⟨y, hy, rfl⟩ := List.mem_map.mp hx
        refine ⟨[.val T, .val L, .val (lS k), s3, s4, .val (tieD t), .val (.str y)], rfl, fun K hK => ?_⟩
        by_cases hy : y ∈ k
        · simp [wSs, wS, wT, wE, wEs, wZ, wO, wI, opW, derefs, deref, readW, one, two, lenW, eqW, truthy, toIntW, toListW, toTupW, onI, mtTy, frz, asgT, asgAll, putSl, wipeF, restF, isOwn, argSls, argSl, borrows, giveBack, srcDs, itemsOf, seqItems, srcBors, rfBor, frzSrc, isTmp, inW, isNW, itemsT, indexLW, indexTW, ixW, anyW, allW, addW, slLoW, slHiW, sliceW, augF]
          rw [if_neg fun h => h y hy rfl]
          simpa [hy] using hK
        · simp [wSs, wS, wT, wE, wEs, wZ, wO, wI, opW, derefs, deref, readW, one, two, lenW, eqW, truthy, toIntW, toListW, toTupW, onI, mtTy, frz, asgT, asgAll, putSl, wipeF, restF, isOwn, argSls, argSl, borrows, giveBack, srcDs, itemsOf, seqItems, srcBors, rfBor, frzSrc, isTmp, inW, isNW, itemsT, indexLW, indexTW, ixW, anyW, allW, addW, slLoW, slHiW, sliceW, augF]
          rw [if_pos fun (a : Str) ha (e : a = y) => hy (e ▸ ha)]
          simpa [hy] using hK
      · rw [List.nil_append, filterMap_filter (g := fun x => !decide (x ∈ k)) _ fun x => rfl]
        simp [wSs, wS, wT, wE, wEs, wZ, wO, wI, opW, derefs, deref, readW, one, two, lenW, eqW, truthy, toIntW, toListW, toTupW, onI, mtTy, frz, asgT, asgAll, putSl, wipeF, restF, isOwn, argSls, argSl, borrows, giveBack, srcDs, itemsOf, seqItems, srcBors, rfBor, frzSrc, isTmp, inW, isNW, itemsT, indexLW, indexTW, ixW, anyW, allW, addW, slLoW, slHiW, sliceW, augF]
        refine ⟨le_line (show k.length + (wto t.2 k).length ≤ 1000 by omega), ?_⟩
        refine q _ ?_
        rw [eg]
        refine .inr ?_
        rw [← List.map_append]
        rfl
    · rw [if_neg (by simpa using h)]
      have eg : grow k t = k := by unfold grow; rw [if_neg h]
      exact q _ (by rw [eg]; exact .inl rfl)
  have after : ∀ (b : Bool), b = decide (∀ x ∈ t.1, x ∈ k) → (if b = true then wSs C (.cons (.set (.n 2) (.op .add (.cons (.v 2) (.cons (.lc [6] (.n 6) (.seq (.op .ix (.cons (.v 5) (.cons (.k (.int 1)) .nil)))) (.some (.op .notin (.cons (.v 6) (.cons (.v 2) .nil)))) (.v 6)) .nil)))) .nil) [.val T, .val L, .val (lS k), s3, s4, .val (tieD t), .none] E
      else wSs C .nil [.val T, .val L, .val (lS k), s3, s4, .val (tieD t), .none] E) := fun b eb => by
    have := rest b eb
    cases b <;> exact this
  unfold bLcF
  rw [wS, wT]
  rcases h2 with rfl | rfl
  · simp only [wE, wEs, List.getElem?_cons_zero, List.getElem?_cons_succ, opW, derefs, deref, readW, two, ixW, i0, frz]
    simp only [Option.some.injEq, exists_eq_left', argSls, argSl, borrows]
    exact ⟨List.nodup_nil, hw _ _ _ _ (.inr rfl) (by omega) fun a b => ⟨_, rfl, after _ rfl⟩⟩
  · simp only [wE, wEs, List.getElem?_cons_zero, List.getElem?_cons_succ, opW, derefs, deref, readW, two, ixW, i0, frz]
    simp only [Option.some.injEq, exists_eq_left', argSls, argSl, borrows]
    exact ⟨List.nodup_nil, hw _ _ _ _ (.inr rfl) (by omega) fun a b => ⟨_, rfl, after _ rfl⟩⟩
/-- one turn along the ties -/
theorem lcI_ok {C : WC} {w : Nat} (hw : WitOk C w) {ts : List Tie} {L : D} {l k : List Str} {s2 s3 s4 s5 : Sl} {E : En} (ht : TOk ts) (hl : l.length ≤ 100) (g : Gr ts l k) (h2 : Lo s2 k) (h5 : Free s5)
    (q : ∀ s2 s5, Lo s2 (grows k ts) → Free s5 → Gr ts l (grows k ts) → E.nx [.val (tiesD ts), .val L, s2, s3, s4, s5, .none]) : wS C (bLcI w) [.val (tiesD ts), .val L, s2, s3, s4, s5, .none] E := by
  unfold bLcI
  simp only [wS, wI, wE, List.getElem?_cons_zero, frzSrc, frz, Option.map_some]
  refine ⟨[tiesD ts], ts.map tieD, rfl, rfl, ?_⟩
  refine forGo_inv (I := fun xs fr => ∃ (us : List Tie) (k' : List Str) (s2 s5 : Sl), xs = us.map tieD ∧ (∀ t ∈ us, t ∈ ts) ∧ grows k' us = grows k ts ∧ Gr ts l k' ∧ Lo s2 k' ∧ Free s5 ∧ fr = [.val (tiesD ts), .val L, s2, s3, s4, s5, .none]) ?_ ?_ ⟨ts, k, s2, s5, rfl, fun _ z => z, rfl, g, h2, h5, rfl⟩
  · rintro x r fr ⟨us, k', a2, a5, ex, hin, eg, g', b2, b5, rfl⟩
    cases us with
    | nil => cases ex
    | cons t us =>
      cases ex
      have ti := hin t List.mem_cons_self
      refine ⟨_, asg_free rfl b5, fun nx hnx => ?_⟩
      show wS C (bLcF w) _ _
      refine lcF_ok hw b2 (g'.len ht hl) (ht.sides t ti) fun c2 hc => ?_
      exact hnx _ ⟨us, grow k' t, c2, _, rfl, fun u hu => hin u (List.mem_cons_of_mem _ hu), eg, g'.grow ht ti, hc, free_v, rfl⟩
  · rintro fr ⟨us, k', a2, a5, ex, hin, eg, g', b2, b5, rfl⟩
    cases us with
    | cons t us => cases ex
    | nil =>
      have e : k' = grows k ts := eg
      subst e
      exact q _ _ b2 b5 g'
def LcloOk (C : WC) (i : Nat) : Prop := ∀ (ts : List Tie) (l : List Str) (Q : Rf → List Sl → Prop), TOk ts → l.length ≤ 100 →
  (∀ (ks : List Str) a b, ks.Pairwise (fun a b => ¬ sg b < sg a) → (l.Nodup → ks.Nodup) → ks.length ≤ 340 → (∀ x, x ∈ ks ↔ Cl ts l x) → Q (.val (tS ks)) [a, b]) → C i [.val (tiesD ts), .val (tS l)] Q
theorem rngD_len {n : Nat} : (rngD 0 n).length = n := by simp [rngD]
theorem rngD_get {n : Nat} {x : D} (h : x ∈ rngD 0 n) : ∃ i : Nat, x = .int i ∧ i < n := by
  obtain ⟨i, hi, rfl⟩ := (List.mem_map.mp h)
  exact ⟨i, by simp, List.mem_range.mp hi⟩
theorem lclo_ok {C : WC} {w : Nat} (hw : WitOk C w) {ts : List Tie} {l : List Str} {Q : Rf → List Sl → Prop} (ht : TOk ts) (hl : l.length ≤ 100)
    (q : ∀ (ks : List Str) a b, ks.Pairwise (fun a b => ¬ sg b < sg a) → (l.Nodup → ks.Nodup) → ks.length ≤ 340 → (∀ x, x ∈ ks ↔ Cl ts l x) → Q (.val (tS ks)) [a, b]) : FnW C 2 7 (bLclo w) [.val (tiesD ts), .val (tS l)] Q := by
  refine ⟨rfl, ?_⟩
  have fin : ∀ (k : List Str) (s2 s3 s4 s5 : Sl), Lo s2 k → Gr ts l k → (∀ t ∈ ts, (∀ x ∈ t.1, x ∈ k) → ∀ x ∈ t.2, x ∈ k) →
      wSs C (.cons (.ret (.op .toTup (.cons (.op .sorted (.cons (.v 2) .nil)) .nil))) .nil) [.val (tiesD ts), .val (tS l), s2, s3, s4, s5, .none] { nx := fun fr => Q (.val .non) (outF 2 fr), rt := fun r fr => Q r (outF 2 fr) } := fun k s2 s3 s4 s5 h2 g cl => by
    have kl := g.len ht hl
    have key : ∀ (ys : List Str), ys.Perm k → ys.Pairwise (fun a b => ¬ sg b < sg a) → Q (.val (tS ys)) [.none, .none] := fun ys p so =>
      q ys _ _ so (fun n => p.nodup_iff.mpr (g.nd n)) (by rw [p.length_eq]; exact kl) fun x => p.mem_iff.trans (cl_of (fun y hy => by
        obtain ⟨e, ek, _⟩ := g.ex
        rw [ek]; exact List.mem_append_left _ hy) g.cl cl)
    rcases h2 with rfl | rfl
    · simp [wSs, wS, wT, wE, wEs, wZ, wO, wI, opW, derefs, deref, readW, one, two, lenW, eqW, truthy, toIntW, toListW, toTupW, onI, mtTy, frz, asgT, asgAll, putSl, wipeF, restF, isOwn, argSls, argSl, borrows, giveBack, srcDs, itemsOf, seqItems, srcBors, rfBor, frzSrc, isTmp, inW, isNW, itemsT, indexLW, indexTW, ixW, anyW, allW, addW, slLoW, slHiW, sliceW, augF, srtW, sortedW]
      exact .inr ⟨by omega, fun ys p so => key ys p so⟩
    · simp [wSs, wS, wT, wE, wEs, wZ, wO, wI, opW, derefs, deref, readW, one, two, lenW, eqW, truthy, toIntW, toListW, toTupW, onI, mtTy, frz, asgT, asgAll, putSl, wipeF, restF, isOwn, argSls, argSl, borrows, giveBack, srcDs, itemsOf, seqItems, srcBors, rfBor, frzSrc, isTmp, inW, isNW, itemsT, indexLW, indexTW, ixW, anyW, allW, addW, slLoW, slHiW, sliceW, augF, srtW, sortedW]
      exact .inr ⟨by omega, fun ys p so => key ys p so⟩
  have body : ∀ (k : List Str) (i : Nat) (s2 s4 s5 : Sl) (x : D) (E : En), Lo s2 k → Free s4 → Free s5 → Gr ts l k →
      (∀ s2 s4 s5, k.length < (grows k ts).length → Lo s2 (grows k ts) → Free s4 → Free s5 → Gr ts l (grows k ts) → E.nx [.val (tiesD ts), .val (tS l), s2, .val x, s4, s5, .none]) →
      (∀ s2 s4 s5, Lo s2 k → Free s4 → Free s5 → (∀ t ∈ ts, (∀ x ∈ t.1, x ∈ k) → ∀ x ∈ t.2, x ∈ k) → E.bk [.val (tiesD ts), .val (tS l), s2, .val x, s4, s5, .none]) →
      wSs C (.cons (.set (.n 4) (.op .len (.cons (.v 2) .nil))) (.cons (bLcI w) (.cons bLcE .nil))) [.val (tiesD ts), .val (tS l), s2, .val x, s4, s5, .none] E := fun k i s2 s4 s5 x E h2 h4 h5 g q1 q2 => by
    have next : wSs C (.cons (bLcI w) (.cons bLcE .nil)) [.val (tiesD ts), .val (tS l), s2, .val x, .val (.int k.length), s5, .none] E := by
      rw [wSs]
      refine lcI_ok hw ht hl g h2 h5 fun a2 a5 b2 b5 g' => ?_
      show wSs C (.cons bLcE .nil) _ E
      have hle : k.length ≤ (grows k ts).length := grows_len
      by_cases e : (grows k ts).length = k.length
      · obtain ⟨e1, cl⟩ := grows_same e
        rw [e1] at b2 g'
        have := q2 a2 (.val (.int k.length)) a5 b2 free_v b5 cl
        unfold bLcE
        rcases b2 with rfl | rfl
        · simpa [wSs, wS, wT, wE, wEs, wZ, wO, wI, opW, derefs, deref, readW, one, two, lenW, eqW, truthy, toIntW, toListW, toTupW, onI, mtTy, frz, asgT, asgAll, putSl, wipeF, restF, isOwn, argSls, argSl, borrows, giveBack, srcDs, itemsOf, seqItems, srcBors, rfBor, frzSrc, isTmp, inW, isNW, itemsT, indexLW, indexTW, ixW, anyW, allW, addW, slLoW, slHiW, sliceW, augF] using this
        · simpa [wSs, wS, wT, wE, wEs, wZ, wO, wI, opW, derefs, deref, readW, one, two, lenW, eqW, truthy, toIntW, toListW, toTupW, onI, mtTy, frz, asgT, asgAll, putSl, wipeF, restF, isOwn, argSls, argSl, borrows, giveBack, srcDs, itemsOf, seqItems, srcBors, rfBor, frzSrc, isTmp, inW, isNW, itemsT, indexLW, indexTW, ixW, anyW, allW, addW, slLoW, slHiW, sliceW, augF] using this
      · have := q1 a2 (.val (.int k.length)) a5 (by omega) b2 free_v b5 g'
        have ne : ¬ (((grows k ts).length : Int) = (k.length : Int)) := by omega
        unfold bLcE
        rcases b2 with rfl | rfl
        · simp [wSs, wS, wT, wE, wEs, wZ, wO, wI, opW, derefs, deref, readW, one, two, lenW, eqW, truthy, toIntW, toListW, toTupW, onI, mtTy, frz, asgT, asgAll, putSl, wipeF, restF, isOwn, argSls, argSl, borrows, giveBack, srcDs, itemsOf, seqItems, srcBors, rfBor, frzSrc, isTmp, inW, isNW, itemsT, indexLW, indexTW, ixW, anyW, allW, addW, slLoW, slHiW, sliceW, augF]
          rw [if_neg ne]
          exact this
        · simp [wSs, wS, wT, wE, wEs, wZ, wO, wI, opW, derefs, deref, readW, one, two, lenW, eqW, truthy, toIntW, toListW, toTupW, onI, mtTy, frz, asgT, asgAll, putSl, wipeF, restF, isOwn, argSls, argSl, borrows, giveBack, srcDs, itemsOf, seqItems, srcBors, rfBor, frzSrc, isTmp, inW, isNW, itemsT, indexLW, indexTW, ixW, anyW, allW, addW, slLoW, slHiW, sliceW, augF]
          rw [if_neg ne]
          exact this
    rw [wSs]
    rcases h2 with rfl | rfl
    · simp only [wS, wE, wEs, List.getElem?_cons_zero, List.getElem?_cons_succ, opW, derefs, deref, readW, one, lenW, frz]
      refine ⟨_, asg_free rfl h4, ?_⟩
      simpa using next
    · simp only [wS, wE, wEs, List.getElem?_cons_zero, List.getElem?_cons_succ, opW, derefs, deref, readW, one, lenW, frz]
      refine ⟨_, asg_free rfl h4, ?_⟩
      simpa using next
  have start : Gr ts l l := ⟨⟨[], by simp, .nil, fun x h => (by cases h)⟩, fun x h => .base h, fun n => n⟩
  unfold bLclo
  simp only [wSs, List.replicate, List.cons_append, List.nil_append]
  simp only [wS, wE, wEs, List.getElem?_cons_zero, List.getElem?_cons_succ, opW, derefs, deref, readW, one, toListW, putSl]
  refine ⟨_, rfl, ?_⟩
  unfold bLcO
  simp only [wS, wI, wE, wEs, List.getElem?_cons_zero, List.getElem?_cons_succ, opW, derefs, deref, readW, one, two, lenW, addW, frzSrc, List.length_map, List.set_cons_succ, List.set_cons_zero]
  have tl := ht.len
  refine ⟨⟨by omega, by omega⟩, [], _, rfl, rfl, ?_⟩
  refine forGo_inv (I := fun xs fr => ∃ (k : List Str) (i : Nat) (s2 s3 s4 s5 : Sl), xs.length + i = ts.length + 1 ∧ open_ ts k + i ≤ ts.length ∧ Lo s2 k ∧ Free s3 ∧ Free s4 ∧ Free s5 ∧ Gr ts l k ∧ fr = [.val (tiesD ts), .val (tS l), s2, s3, s4, s5, .none]) ?_ ?_
    ⟨l, 0, _, .none, .none, .none, by rw [rngD_len]; omega, List.length_filter_le .., .inr rfl, free_n, free_n, free_n, start, rfl⟩
  · rintro x r fr ⟨k, i, s2, s3, s4, s5, e1, e2, h2, h3, h4, h5, g, rfl⟩
    refine ⟨_, asg_free rfl h3, fun nx hnx => ?_⟩
    refine body k i s2 s4 s5 x _ h2 h4 h5 g (fun a2 a4 a5 lt b2 b4 b5 g' => ?_) fun a2 a4 a5 b2 b4 b5 cl => ?_
    · have := open_lt lt
      exact hnx _ ⟨_, i + 1, a2, .val x, a4, a5, by simp only [List.length_cons] at e1; omega, by omega, b2, free_v, b4, b5, g', rfl⟩
    · exact fin k a2 _ a4 a5 b2 g cl
  · rintro fr ⟨k, i, s2, s3, s4, s5, e1, e2, h2, h3, h4, h5, g, rfl⟩
    simp only [List.length_nil] at e1
    omega
end QL
set_option maxHeartbeats 1500000
/-! MF: the draws -/
namespace QL
open PySem L2
abbrev lI (xs : List Int) : D := .lst (xs.map .int)
def bDrA : CSs := (.cons (.ex (.mt .append (.v 4) (.cons (.fz (.op .mod (.cons (.op .toInt (.cons (.op .ix (.cons (.v 3) (.cons (.v 6) .nil))) .nil)) (.cons (.k (.int 1000)) .nil)))) .nil))) (.cons (.setIx (.v 3) (.v 6) (.op .fdiv (.cons (.op .ix (.cons (.v 3) (.cons (.v 6) .nil))) (.cons (.k (.int 1000)) .nil)))) .nil))
def bDrB : CSs := (.cons (.set (.n 7) (.op .mod (.cons (.op .toInt (.cons (.op .add (.cons (.op .add (.cons (.op .mul (.cons (.op .ix (.cons (.v 2) (.cons (.v 6) .nil))) (.cons (.k (.int 48271)) .nil))) (.cons (.op .mul (.cons (.v 5) (.cons (.k (.int 69621)) .nil))) .nil))) (.cons (.k (.int 11)) .nil))) .nil)) (.cons (.k (.int 2147483647)) .nil)))) (.cons (.ex (.mt .append (.v 4) (.cons (.fz (.op .mod (.cons (.op .toInt (.cons (.op .add (.cons (.op .add (.cons (.op .mul (.cons (.v 7) (.cons (.v 7) .nil))) (.cons (.op .mul (.cons (.k (.int 3)) (.cons (.v 7) .nil))) .nil))) (.cons (.v 5) .nil))) .nil)) (.cons (.k (.int 1000003)) .nil)))) .nil))) .nil))
def bDrI : CS := (.ite (.and (.op .ge (.cons (.op .ix (.cons (.v 2) (.cons (.v 6) .nil))) (.cons (.op .pow (.cons (.k (.int 10)) (.cons (.k (.int 18)) .nil))) .nil))) (.op .gt (.cons (.op .ix (.cons (.v 3) (.cons (.v 6) .nil))) (.cons (.k (.int 0)) .nil)))) bDrA bDrB)
def bDrF : CS := (.for (.n 5) (.rng1 (.v 1)) (.cons (.set (.n 6) (.op .mod (.cons (.v 5) (.cons (.op .len (.cons (.v 2) .nil)) .nil)))) (.cons bDrI .nil)))
def bDr2 : CSs := (.cons (.set (.n 3) (.op .toList (.cons (.v 2) .nil))) (.cons (.set (.n 4) (.lst .nil)) (.cons bDrF (.cons (.ex (.mt .reverse (.v 4) .nil)) (.cons (.ret (.v 4)) .nil)))))
def bDraws : CSs := (.cons (.setLc 2 (.lc [8] (.n 8) (.seq (.v 0)) .none (.op .toInt (.cons (.v 8) .nil)))) (.cons (.ite (.op .eq (.cons (.op .len (.cons (.v 2) .nil)) (.cons (.k (.int 0)) .nil))) (.cons (.ex (.mt .append (.v 2) (.cons (.fz (.k (.int 0))) .nil))) .nil) .nil) bDr2))
def DrawsOk (C : WC) (i : Nat) : Prop := ∀ (ns : List Int) (m : Int) (Q : Rf → List Sl → Prop), ns.length ≤ 400 → 0 ≤ m → m ≤ 1000 → (∀ (ds : List Int) a b, Q (.tmp (lI ds)) [a, b]) → C i [.val (.frl (ns.map .int)), .val (.int m)] Q
def dFr (S M : D) (cs ls ds : List Int) (a b c : Sl) : Fr := [.val S, .val M, .own false (lI cs), .own false (lI ls), .own false (lI ds), a, b, c, .none]
theorem atI_map {xs : List Int} {v : Int} (h0 : 0 ≤ v) (h1 : v < xs.length) : ∃ x, atI (xs.map D.int) v = some (.int x) := by
  obtain ⟨y, e, hm⟩ := atI_mem (xs := xs.map D.int) h0 (by simpa using h1)
  obtain ⟨x, _, rfl⟩ := List.mem_map.mp hm
  exact ⟨x, e⟩
theorem drI_ok {C : WC} {S M : D} {cs ls ds : List Int} {k p : Int} {c : Sl} {E : En} (hc : Free c) (hk : 0 ≤ k ∧ k ≤ 1000) (hp : 0 ≤ p ∧ p < cs.length) (hl : cs.length = ls.length) (hd : ds.length ≤ 1000)
    (q : ∀ (ls' : List Int) (d : Int) (c : Sl), ls'.length = ls.length → Free c → E.nx (dFr S M cs ls' (ds ++ [d]) (.val (.int k)) (.val (.int p)) c)) : wS C bDrI (dFr S M cs ls ds (.val (.int k)) (.val (.int p)) c) E := by
  obtain ⟨x, ex⟩ := atI_map (xs := cs) hp.1 hp.2
  obtain ⟨y, ey⟩ := atI_map (xs := ls) hp.1 (by omega)
  have dl : ds.length < sizeLine := small1000 hd
  have d3 : ∀ i j : Int, CDiv i 1000 := fun i j => ⟨by decide, by decide⟩
  have ep : CPow 10 18 := ⟨by decide, by decide, by decide⟩
  have hA : wSs C bDrA (dFr S M cs ls ds (.val (.int k)) (.val (.int p)) c) E := by
    unfold bDrA dFr
    simp [wSs, wS, wT, wE, wEs, wZ, wO, wI, opW, derefs, deref, readW, one, two, lenW, eqW, truthy, toIntW, toListW, toTupW, onI, mtTy, frz, wipeF, restF, isOwn, argSls, argSl, borrows, giveBack, srcDs, itemsOf, seqItems, srcBors, rfBor, frzSrc, isTmp, inW, isNW, itemsT, indexLW, indexTW, ixW, anyW, allW, addW, slLoW, slHiW, sliceW, augF, ey, dl]
    refine ⟨d3 y 0, p.toNat, ?_, ?_⟩
    · unfold ixN
      rw [if_pos hp.1, if_pos (by omega)]
    · have := q (ls.set p.toNat (y / 1000)) (y % 1000) c (by simp) hc
      unfold dFr at this
      simpa [lI, List.map_set] using this
  have hB : wSs C bDrB (dFr S M cs ls ds (.val (.int k)) (.val (.int p)) c) E := by
    unfold bDrB dFr
    simp [wSs, wS, wT, wE, wEs, wZ, wO, wI, opW, derefs, deref, readW, one, two, lenW, eqW, truthy, toIntW, toListW, toTupW, onI, mtTy, frz, wipeF, restF, isOwn, argSls, argSl, borrows, giveBack, srcDs, itemsOf, seqItems, srcBors, rfBor, frzSrc, isTmp, inW, isNW, itemsT, indexLW, indexTW, ixW, anyW, allW, addW, slLoW, slHiW, sliceW, augF, ex, mulW]
    have cm : ∀ i j : Int, -(2 ^ 64) < j → j < 2 ^ 64 → CMul i j := fun i j h1 h2 => .inr ⟨h1, h2⟩
    have m0 := Int.emod_nonneg (x * 48271 + k * 69621 + 11) (show (2147483647 : Int) ≠ 0 by decide)
    have m1 := Int.emod_lt_of_pos (x * 48271 + k * 69621 + 11) (show (0 : Int) < 2147483647 by decide)
    refine ⟨cm _ _ (by decide) (by decide), cm _ _ (by decide) (by decide), _, asg_free rfl hc, ?_⟩
    generalize (x * 48271 + k * 69621 + 11) % 2147483647 = z at m0 m1 ⊢
    simp [wSs, wS, wT, wE, wEs, wZ, wO, wI, opW, derefs, deref, readW, one, two, lenW, eqW, truthy, toIntW, toListW, toTupW, onI, mtTy, frz, wipeF, restF, isOwn, argSls, argSl, borrows, giveBack, srcDs, itemsOf, seqItems, srcBors, rfBor, frzSrc, isTmp, inW, isNW, itemsT, indexLW, indexTW, ixW, anyW, allW, addW, slLoW, slHiW, sliceW, augF, mulW, dl]
    refine ⟨cm _ _ (by omega) (by omega), cm _ _ (by omega) (by omega), ?_⟩
    have := q ls ((z * z + 3 * z + k) % 1000003) (.val (.int z)) rfl free_v
    unfold dFr at this
    simpa [lI] using this
  unfold bDrI dFr
  simp [wSs, wS, wT, wE, wEs, wZ, wO, wI, opW, derefs, deref, readW, one, two, lenW, eqW, truthy, toIntW, toListW, toTupW, onI, mtTy, frz, wipeF, restF, isOwn, argSls, argSl, borrows, giveBack, srcDs, itemsOf, seqItems, srcBors, rfBor, frzSrc, isTmp, inW, isNW, itemsT, indexLW, indexTW, ixW, anyW, allW, addW, slLoW, slHiW, sliceW, augF, ex, ey, ep, gtW]
  split
  · split
    · exact hA
    · exact hB
  · exact hB
theorem draws_ok {C : WC} {ns : List Int} {m : Int} {Q : Rf → List Sl → Prop} (hl : ns.length ≤ 400) (h0 : 0 ≤ m) (h1 : m ≤ 1000) (q : ∀ (ds : List Int) a b, Q (.tmp (lI ds)) [a, b]) : FnW C 2 9 bDraws [.val (.frl (ns.map .int)), .val (.int m)] Q := by
  refine ⟨rfl, ?_⟩
  have rest : ∀ (cs : List Int), 0 < cs.length → cs.length ≤ 1000 → wSs C bDr2 [.val (.frl (ns.map .int)), .val (.int m), .own false (lI cs), .none, .none, .none, .none, .none, .none] { nx := fun fr => Q (.val .non) (outF 2 fr), rt := fun r fr => Q r (outF 2 fr) } := fun cs hc hc2 => by
    unfold bDr2
    simp [wSs, wS, wT, wE, wEs, wZ, wO, wI, opW, derefs, deref, readW, one, two, lenW, eqW, truthy, toIntW, toListW, toTupW, onI, mtTy, frz, asgT, asgAll, putSl, wipeF, restF, isOwn, argSls, argSl, borrows, giveBack, srcDs, itemsOf, seqItems, srcBors, rfBor, frzSrc, isTmp, inW, isNW, itemsT, indexLW, indexTW, ixW, anyW, allW, addW, slLoW, slHiW, sliceW, augF]
    unfold bDrF
    simp [wSs, wS, wT, wE, wEs, wZ, wO, wI, opW, derefs, deref, readW, one, two, lenW, eqW, truthy, toIntW, toListW, toTupW, onI, mtTy, frz, wipeF, restF, isOwn, argSls, argSl, borrows, giveBack, srcDs, itemsOf, seqItems, srcBors, rfBor, frzSrc, isTmp, inW, isNW, itemsT, indexLW, indexTW, ixW, anyW, allW, addW, slLoW, slHiW, sliceW, augF]
    refine ⟨⟨by omega, by omega⟩, ?_⟩
    refine forGo_inv (I := fun xs fr => ∃ (ls ds : List Int) (a b c : Sl), fr = dFr (.frl (ns.map .int)) (.int m) cs ls ds a b c ∧ Free a ∧ Free b ∧ Free c ∧ cs.length = ls.length ∧ xs.length + ds.length ≤ 1000 ∧ ∀ x ∈ xs, ∃ i : Nat, x = .int i ∧ i < 1000) ?_ ?_
      ⟨cs, [], .none, .none, .none, rfl, free_n, free_n, free_n, rfl, by rw [rngD_len]; simp; omega, fun x hx => by
        obtain ⟨i, rfl, hi⟩ := rngD_get hx
        exact ⟨i, rfl, by omega⟩⟩
    · rintro x r fr ⟨ls, ds, a, b, c, rfl, ha, hb, hc', el, hlen, hx⟩
      obtain ⟨i, rfl, hi⟩ := hx x List.mem_cons_self
      refine ⟨_, asg_free rfl ha, fun nx hnx => ?_⟩
      simp [wSs, wS, wT, wE, wEs, wZ, wO, wI, opW, derefs, deref, readW, one, two, lenW, eqW, truthy, toIntW, toListW, toTupW, onI, mtTy, frz, wipeF, restF, isOwn, argSls, argSl, borrows, giveBack, srcDs, itemsOf, seqItems, srcBors, rfBor, frzSrc, isTmp, inW, isNW, itemsT, indexLW, indexTW, ixW, anyW, allW, addW, slLoW, slHiW, sliceW, augF, dFr]
      (simp only [List.length_cons] at hlen)
      have p0 := Int.emod_nonneg (i : Int) (show ((cs.length : Nat) : Int) ≠ 0 by omega)
      have p1 := Int.emod_lt_of_pos (i : Int) (show (0 : Int) < ((cs.length : Nat) : Int) by omega)
      refine ⟨hc, _, asg_free rfl hb, ?_⟩
      simp
      refine drI_ok (ls := ls) (ds := ds) (S := .frl (ns.map .int)) (M := .int m) hc' (by omega) ⟨p0, p1⟩ el (by omega) fun ls' d c' e2 f2 => ?_
      exact hnx _ ⟨ls', ds ++ [d], _, _, c', rfl, free_v, free_v, f2, by omega, by rw [List.length_append]; simp; omega, fun x hx' => hx x (List.mem_cons_of_mem _ hx')⟩
    · rintro fr ⟨ls, ds, a, b, c, rfl, ha, hb, hc', el, hlen, hx⟩
      simp [wSs, wS, wT, wE, wEs, wZ, wO, wI, opW, derefs, deref, readW, one, two, lenW, eqW, truthy, toIntW, toListW, toTupW, onI, mtTy, frz, asgT, asgAll, putSl, wipeF, restF, isOwn, argSls, argSl, borrows, giveBack, srcDs, itemsOf, seqItems, srcBors, rfBor, frzSrc, isTmp, inW, isNW, itemsT, indexLW, indexTW, ixW, anyW, allW, addW, slLoW, slHiW, sliceW, augF, dFr]
      rw [← List.map_reverse]
      exact q _ _ _
  unfold bDraws
  simp [wSs, wS, wT, wE, wEs, wZ, wO, wI, opW, derefs, deref, readW, one, two, lenW, eqW, truthy, toIntW, toListW, toTupW, onI, mtTy, frz, asgT, asgAll, putSl, wipeF, restF, isOwn, argSls, argSl, borrows, giveBack, srcDs, itemsOf, seqItems, srcBors, rfBor, frzSrc, isTmp, inW, isNW, itemsT, indexLW, indexTW, ixW, anyW, allW, addW, slLoW, slHiW, sliceW, augF]
  refine ⟨le_line (by omega), lcGo_pure (fun d => some d) rfl (fun x hx => ?_) ?_⟩
  · obtain ⟨y, hy, rfl⟩ := List.mem_map.mp hx
    refine ⟨[.val (.frl (ns.map .int)), .val (.int m), .none, .none, .none, .none, .none, .none, .val (.int y)], rfl, fun K hK => ?_⟩
    simpa [wSs, wS, wT, wE, wEs, wZ, wO, wI, opW, derefs, deref, readW, one, two, lenW, eqW, truthy, toIntW, toListW, toTupW, onI, mtTy, frz, asgT, asgAll, putSl, wipeF, restF, isOwn, argSls, argSl, borrows, giveBack, srcDs, itemsOf, seqItems, srcBors, rfBor, frzSrc, isTmp, inW, isNW, itemsT, indexLW, indexTW, ixW, anyW, allW, addW, slLoW, slHiW, sliceW, augF] using hK
  · rw [List.nil_append, show (fun d => some d) = (some : D → Option D) from rfl, List.filterMap_some]
    simp [wSs, wS, wT, wE, wEs, wZ, wO, wI, opW, derefs, deref, readW, one, two, lenW, eqW, truthy, toIntW, toListW, toTupW, onI, mtTy, frz, asgT, asgAll, putSl, wipeF, restF, isOwn, argSls, argSl, borrows, giveBack, srcDs, itemsOf, seqItems, srcBors, rfBor, frzSrc, isTmp, inW, isNW, itemsT, indexLW, indexTW, ixW, anyW, allW, addW, slLoW, slHiW, sliceW, augF]
    by_cases e : ns = []
    · rw [if_pos e]
      subst e
      exact ⟨Nat.zero_le 0 |> fun _ => (show 0 < sizeLine from small1000 (by decide)), rest [0] (by decide) (by decide)⟩
    · rw [if_neg e]
      exact rest ns (List.length_pos_iff.mpr e) (by omega)
end QL
set_option maxHeartbeats 1500000
/-! MG: words -/
namespace QL
open PySem L2
def bWoJ (t : Nat) : CS := (.set (.n 5) (.mt .join (.k (.str "")) (.cons (.lc [6] (.n 6) (.rng1 (.v 4)) .none (.op .ix (.cons (.k (.str "abcdefghijklmnopqrstuvwxyz")) (.cons (.call t (.cons (.v 0) (.cons (.fz (.k (.int 26))) .nil))) .nil)))) .nil)))
def bWoZ : CSs := (.cons (.set (.n 5) (.op .mul (.cons (.k (.str "z")) (.cons (.op .add (.cons (.k (.int 1)) (.cons (.op .max1 (.cons (.op .add (.cons (.lst (.cons (.k (.int 4)) .nil)) (.cons (.lc [7] (.n 7) (.seq (.v 2)) .none (.op .len (.cons (.v 7) .nil))) .nil))) .nil)) .nil))) .nil)))) .nil)
def bWoI : CS := (.ite (.or (.op .isin (.cons (.v 5) (.cons (.v 2) .nil))) (.op .eq (.cons (.v 5) (.cons (.k (.str "true")) .nil)))) bWoZ .nil)
def bWoS (t : Nat) : CS := (.ite (.op .eq (.cons (.call t (.cons (.v 0) (.cons (.fz (.k (.int 9))) .nil))) (.cons (.k (.int 0)) .nil))) (.cons (.set (.n 4) (.op .add (.cons (.op .add (.cons (.v 4) (.cons (.k (.int 3)) .nil))) (.cons (.call t (.cons (.v 0) (.cons (.fz (.k (.int 20))) .nil))) .nil)))) .nil) .nil)
def bWoF (t : Nat) : CS := (.for (.n 3) (.rng1 (.v 1)) (.cons (.set (.n 4) (.op .add (.cons (.k (.int 1)) (.cons (.call t (.cons (.v 0) (.cons (.fz (.k (.int 3))) .nil))) .nil)))) (.cons (bWoS t) (.cons (bWoJ t) (.cons bWoI (.cons (.ex (.mt .append (.v 2) (.cons (.fz (.v 5)) .nil))) .nil))))))
def bWords (t : Nat) : CSs := (.cons (.set (.n 2) (.lst .nil)) (.cons (bWoF t) (.cons (.ret (.v 2)) .nil)))
abbrev oI (ds : List Int) : Sl := .own true (lI ds)
theorem join_ok {C : WC} {t : Nat} (ht : TakeOk C t) {ds : List Int} {s1 s2 s3 s5 : Sl} {n : Int} {E : En} (h5 : Free s5) (hn : 0 ≤ n ∧ n ≤ 100)
    (q : ∀ (ds : List Int) (w : Str), w.length ≤ 100 → E.nx [oI ds, s1, s2, s3, .val (.int n), .val (.str w), .none, .none]) : wS C (bWoJ t) [oI ds, s1, s2, s3, .val (.int n), s5, .none, .none] E := by
  have sl : (100 : Nat) ≤ sizeLine := le_line (by decide)
  unfold bWoJ
  simp [wSs, wS, wT, wE, wEs, wZ, wO, wI, opW, derefs, deref, readW, one, two, lenW, eqW, truthy, toIntW, toListW, toTupW, onI, mtTy, frz, wipeF, restF, isOwn, argSls, argSl, borrows, giveBack, srcDs, itemsOf, seqItems, srcBors, rfBor, frzSrc, isTmp, inW, isNW, itemsT, indexLW, indexTW, ixW, anyW, allW, addW, slLoW, slHiW, sliceW, augF, asgT, putSl]
  refine ⟨⟨by omega, by omega⟩, by rw [rngD_len]; omega, ?_⟩
  refine lcGo_inv (I := fun xs acc fr => ∃ (ds : List Int) (cs : List Nat), acc = cs.map (fun c => D.str ⟨#[c]⟩) ∧ fr = [oI ds, s1, s2, s3, .val (.int n), s5, .none, .none] ∧ xs.length + cs.length ≤ 100) ?_ ?_ ⟨ds, [], rfl, rfl, by rw [rngD_len]; simp; omega⟩
  · rintro x r acc fr ⟨ds, cs, rfl, rfl, hl⟩
    refine ⟨rfl, fun K k1 k2 => ?_⟩
    simp [wSs, wS, wT, wE, wEs, wZ, wO, wI, opW, derefs, deref, readW, one, two, lenW, eqW, truthy, toIntW, toListW, toTupW, onI, mtTy, frz, wipeF, restF, isOwn, argSls, argSl, borrows, giveBack, srcDs, itemsOf, seqItems, srcBors, rfBor, frzSrc, isTmp, inW, isNW, itemsT, indexLW, indexTW, ixW, anyW, allW, addW, slLoW, slHiW, sliceW, augF, asgT, putSl]
    refine ht _ _ _ _ (by decide) fun ds' v s h0 h1 => ?_
    obtain ⟨c, ec, _⟩ := atI_mem (xs := (Str.ofString "abcdefghijklmnopqrstuvwxyz").cps.toList) h0 (by
      have : (Str.ofString "abcdefghijklmnopqrstuvwxyz").cps.toList.length = 26 := by decide +kernel
      rw [this]; exact h1)
    simp [wSs, wS, wT, wE, wEs, wZ, wO, wI, opW, derefs, deref, readW, one, two, lenW, eqW, truthy, toIntW, toListW, toTupW, onI, mtTy, frz, wipeF, restF, isOwn, argSls, argSl, borrows, giveBack, srcDs, itemsOf, seqItems, srcBors, rfBor, frzSrc, isTmp, inW, isNW, itemsT, indexLW, indexTW, ixW, anyW, allW, addW, slLoW, slHiW, sliceW, augF, ec]
    refine k1 _ _ ⟨ds', cs ++ [c], by simp, rfl, ?_⟩
    simp only [List.length_cons, List.length_append] at hl ⊢
    simp
    omega
  · rintro acc fr ⟨ds, cs, rfl, rfl, hl⟩
    refine ⟨rfl, ?_⟩
    have es : strsD (cs.map fun c => D.str ⟨#[c]⟩) = some (cs.map fun c => (⟨#[c]⟩ : Str)) := by
      rw [show (cs.map fun c => D.str ⟨#[c]⟩) = (cs.map fun c => (⟨#[c]⟩ : Str)).map D.str by rw [List.map_map]; rfl]
      exact strsD_map
    simp [wSs, wS, wT, wE, wEs, wZ, wO, wI, opW, derefs, deref, readW, one, two, lenW, eqW, truthy, toIntW, toListW, toTupW, onI, mtTy, frz, wipeF, restF, isOwn, argSls, argSl, borrows, giveBack, srcDs, itemsOf, seqItems, srcBors, rfBor, frzSrc, isTmp, inW, isNW, itemsT, indexLW, indexTW, ixW, anyW, allW, addW, slLoW, slHiW, sliceW, augF, joinW, es]
    have lz : Str.length ⟨((cs.map fun c => (⟨#[c]⟩ : Str)).flatMap sg).toArray⟩ = cs.length := by
      show ((cs.map fun c => (⟨#[c]⟩ : Str)).flatMap sg).toArray.size = _
      rw [List.size_toArray]
      clear es hl
      induction cs with
      | nil => rfl
      | cons c r ih => simp only [List.map_cons, List.flatMap_cons, List.length_append, List.length_cons, ih]; simp [sg]; omega
    have hl : cs.length ≤ 100 := by simpa using hl
    refine ⟨by decide +kernel, by omega, fun c _ => (show 1 ≤ 1000 by decide), ?_⟩
    rcases h5 with rfl | ⟨_, rfl⟩ <;> exact ⟨_, rfl, q _ _ (by rw [lz]; exact hl)⟩
theorem wordS_ok {C : WC} {t : Nat} (ht : TakeOk C t) {ds : List Int} {s1 s2 s3 s5 : Sl} {n : Int} {E : En} (hn : 0 ≤ n ∧ n ≤ 4)
    (q : ∀ (ds : List Int) (n : Int), 0 ≤ n ∧ n ≤ 100 → E.nx [oI ds, s1, s2, s3, .val (.int n), s5, .none, .none]) : wS C (bWoS t) [oI ds, s1, s2, s3, .val (.int n), s5, .none, .none] E := by
  unfold bWoS
  simp [wSs, wS, wT, wE, wEs, wZ, wO, wI, opW, derefs, deref, readW, one, two, lenW, eqW, truthy, toIntW, toListW, toTupW, onI, mtTy, frz, asgT, asgAll, putSl, wipeF, restF, isOwn, argSls, argSl, borrows, giveBack, srcDs, itemsOf, seqItems, srcBors, rfBor, frzSrc, isTmp, inW, isNW, itemsT, indexLW, indexTW, ixW, anyW, allW, addW, slLoW, slHiW, sliceW, augF]
  refine ht _ _ _ _ (by decide) fun ds' v s h0 h1 => ?_
  simp [wSs, wS, wT, wE, wEs, wZ, wO, wI, opW, derefs, deref, readW, one, two, lenW, eqW, truthy, toIntW, toListW, toTupW, onI, mtTy, frz, asgT, asgAll, putSl, wipeF, restF, isOwn, argSls, argSl, borrows, giveBack, srcDs, itemsOf, seqItems, srcBors, rfBor, frzSrc, isTmp, inW, isNW, itemsT, indexLW, indexTW, ixW, anyW, allW, addW, slLoW, slHiW, sliceW, augF]
  split
  · refine ht _ _ _ _ (by decide) fun ds2 v2 s' k0 k1 => ?_
    simp [wSs, wS, wT, wE, wEs, wZ, wO, wI, opW, derefs, deref, readW, one, two, lenW, eqW, truthy, toIntW, toListW, toTupW, onI, mtTy, frz, asgT, asgAll, putSl, wipeF, restF, isOwn, argSls, argSl, borrows, giveBack, srcDs, itemsOf, seqItems, srcBors, rfBor, frzSrc, isTmp, inW, isNW, itemsT, indexLW, indexTW, ixW, anyW, allW, addW, slLoW, slHiW, sliceW, augF]
    exact q _ _ (by omega)
  · exact q _ _ (by omega)
theorem wordI_ok {C : WC} {ds : List Int} {s1 s3 s4 : Sl} {ws : List Str} {w : Str} {E : En} {L : Nat} (hw : w.length ≤ L) (hL : L ≤ 500) (h4 : 4 ≤ L) (hws : ∀ x ∈ ws, x.length ≤ L) (hn : ws.length ≤ 500)
    (q : ∀ (w : Str), w.length ≤ L + 1 → w ∉ ws → E.nx [oI ds, s1, .own false (lS ws), s3, s4, .val (.str w), .none, .none]) : wS C bWoI [oI ds, s1, .own false (lS ws), s3, s4, .val (.str w), .none, .none] E := by
  have l1 : (1 : Nat) ≤ sizeLine := le_line (by decide)
  have z : wSs C bWoZ [oI ds, s1, .own false (lS ws), s3, s4, .val (.str w), .none, .none] E := by
    unfold bWoZ
    simp [wSs, wS, wT, wE, wEs, wZ, wO, wI, opW, derefs, deref, readW, one, two, lenW, eqW, truthy, toIntW, toListW, toTupW, onI, mtTy, frz, asgT, asgAll, putSl, wipeF, restF, isOwn, argSls, argSl, borrows, giveBack, srcDs, itemsOf, seqItems, srcBors, rfBor, frzSrc, isTmp, inW, isNW, itemsT, indexLW, indexTW, ixW, anyW, allW, addW, slLoW, slHiW, sliceW, augF]
    refine ⟨l1, le_line (by omega), ?_⟩
    refine lcGo_pure (fun d => match d with | .str x => some (.int (x.length : Nat)) | _ => none) rfl (fun x hx => ?_) ?_
    · obtain ⟨y, hy, rfl⟩ := List.mem_map.mp hx
      refine ⟨[oI ds, s1, .own false (lS ws), s3, s4, .val (.str w), .none, .val (.str y)], rfl, fun K hK => ?_⟩
      simpa [wSs, wS, wT, wE, wEs, wZ, wO, wI, opW, derefs, deref, readW, one, two, lenW, eqW, truthy, toIntW, toListW, toTupW, onI, mtTy, frz, asgT, asgAll, putSl, wipeF, restF, isOwn, argSls, argSl, borrows, giveBack, srcDs, itemsOf, seqItems, srcBors, rfBor, frzSrc, isTmp, inW, isNW, itemsT, indexLW, indexTW, ixW, anyW, allW, addW, slLoW, slHiW, sliceW, augF] using hK
    · rw [List.nil_append, filterMap_map D.str (fun x => ((x.length : Nat) : Int)) D.int _ fun x => rfl]
      simp [wSs, wS, wT, wE, wEs, wZ, wO, wI, opW, derefs, deref, readW, one, two, lenW, eqW, truthy, toIntW, toListW, toTupW, onI, mtTy, frz, asgT, asgAll, putSl, wipeF, restF, isOwn, argSls, argSl, borrows, giveBack, srcDs, itemsOf, seqItems, srcBors, rfBor, frzSrc, isTmp, inW, isNW, itemsT, indexLW, indexTW, ixW, anyW, allW, addW, slLoW, slHiW, sliceW, augF, max1W]
      refine ⟨le_line (by omega), 4 :: ws.map fun x => ((x.length : Nat) : Int), ?_, by simp, ?_⟩
      · rw [← intsD_map]
        simp
      intro m hm hall
      have m4 : 4 ≤ m := hall 4 List.mem_cons_self
      have mL : m ≤ L := by
        rcases List.mem_cons.1 hm with rfl | hm
        · omega
        · obtain ⟨x, hx, rfl⟩ := List.mem_map.mp hm
          have := hws x hx
          omega
      simp [wSs, wS, wT, wE, wEs, wZ, wO, wI, opW, derefs, deref, readW, one, two, lenW, eqW, truthy, toIntW, toListW, toTupW, onI, mtTy, frz, asgT, asgAll, putSl, wipeF, restF, isOwn, argSls, argSl, borrows, giveBack, srcDs, itemsOf, seqItems, srcBors, rfBor, frzSrc, isTmp, inW, isNW, itemsT, indexLW, indexTW, ixW, anyW, allW, addW, slLoW, slHiW, sliceW, augF, mulW]
      refine ⟨by omega, by rfl, by omega, ?_⟩
      have lz : ∀ (k c : Nat), Str.length ⟨Array.replicate k c⟩ = k := fun k c => Array.size_replicate ..
      refine q _ (by rw [lz]; omega) fun hin => ?_
      have := hall _ (List.mem_cons_of_mem _ (List.mem_map.mpr ⟨_, hin, rfl⟩))
      rw [lz] at this
      omega
  unfold bWoI
  simp [wSs, wS, wT, wE, wEs, wZ, wO, wI, opW, derefs, deref, readW, one, two, lenW, eqW, truthy, toIntW, toListW, toTupW, onI, mtTy, frz, asgT, asgAll, putSl, wipeF, restF, isOwn, argSls, argSl, borrows, giveBack, srcDs, itemsOf, seqItems, srcBors, rfBor, frzSrc, isTmp, inW, isNW, itemsT, indexLW, indexTW, ixW, anyW, allW, addW, slLoW, slHiW, sliceW, augF]
  by_cases h : w ∈ ws
  · simp [h]
    exact z
  · simp [h]
    split
    · exact z
    · exact q _ (by omega) h
def WordsOk (C : WC) (i : Nat) : Prop := ∀ (ds : List Int) (m : Int) (Q : Rf → List Sl → Prop), 0 ≤ m → m ≤ 100 → (∀ (ds : List Int) (ws : List Str) s, ws.length = m.toNat → ws.Nodup → (∀ x ∈ ws, x.length ≤ 300) → Q (.tmp (lS ws)) [oI ds, s]) → C i [oI ds, .val (.int m)] Q
theorem words_ok {C : WC} {t : Nat} (ht : TakeOk C t) {ds : List Int} {m : Int} {Q : Rf → List Sl → Prop} (h0 : 0 ≤ m) (h1 : m ≤ 100) (q : ∀ (ds : List Int) (ws : List Str) s, ws.length = m.toNat → ws.Nodup → (∀ x ∈ ws, x.length ≤ 300) → Q (.tmp (lS ws)) [oI ds, s]) :
    FnW C 2 8 (bWords t) [oI ds, .val (.int m)] Q := by
  refine ⟨rfl, ?_⟩
  unfold bWords
  simp [wSs, wS, wT, wE, wEs, wZ, wO, wI, opW, derefs, deref, readW, one, two, lenW, eqW, truthy, toIntW, toListW, toTupW, onI, mtTy, frz, asgT, asgAll, putSl, wipeF, restF, isOwn, argSls, argSl, borrows, giveBack, srcDs, itemsOf, seqItems, srcBors, rfBor, frzSrc, isTmp, inW, isNW, itemsT, indexLW, indexTW, ixW, anyW, allW, addW, slLoW, slHiW, sliceW, augF]
  unfold bWoF
  simp [wSs, wS, wT, wE, wEs, wZ, wO, wI, opW, derefs, deref, readW, one, two, lenW, eqW, truthy, toIntW, toListW, toTupW, onI, mtTy, frz, wipeF, restF, isOwn, argSls, argSl, borrows, giveBack, srcDs, itemsOf, seqItems, srcBors, rfBor, frzSrc, isTmp, inW, isNW, itemsT, indexLW, indexTW, ixW, anyW, allW, addW, slLoW, slHiW, sliceW, augF]
  refine ⟨⟨by omega, by omega⟩, ?_⟩
  refine forGo_inv (I := fun xs fr => ∃ (ds : List Int) (ws : List Str) (s3 s4 s5 : Sl), fr = [oI ds, .val (.int m), .own false (lS ws), s3, s4, s5, .none, .none] ∧ Free s3 ∧ Free s4 ∧ Free s5 ∧ xs.length + ws.length = m.toNat ∧ ws.Nodup ∧ ∀ x ∈ ws, x.length ≤ 100 + ws.length) ?_ ?_
    ⟨ds, [], .none, .none, .none, rfl, free_n, free_n, free_n, by rw [rngD_len]; simp, .nil, fun x h => (by cases h)⟩
  · rintro x r fr ⟨ds, ws, s3, s4, s5, rfl, h3, h4, h5, hl, nd, hw⟩
    simp only [List.length_cons] at hl
    refine ⟨_, asg_free rfl h3, fun nx hnx => ?_⟩
    simp [wSs, wS, wT, wE, wEs, wZ, wO, wI, opW, derefs, deref, readW, one, two, lenW, eqW, truthy, toIntW, toListW, toTupW, onI, mtTy, frz, wipeF, restF, isOwn, argSls, argSl, borrows, giveBack, srcDs, itemsOf, seqItems, srcBors, rfBor, frzSrc, isTmp, inW, isNW, itemsT, indexLW, indexTW, ixW, anyW, allW, addW, slLoW, slHiW, sliceW, augF]
    refine ht _ _ _ _ (by decide) fun ds' v s k0 k1 => ?_
    simp [wSs, wS, wT, wE, wEs, wZ, wO, wI, opW, derefs, deref, readW, one, two, lenW, eqW, truthy, toIntW, toListW, toTupW, onI, mtTy, frz, wipeF, restF, isOwn, argSls, argSl, borrows, giveBack, srcDs, itemsOf, seqItems, srcBors, rfBor, frzSrc, isTmp, inW, isNW, itemsT, indexLW, indexTW, ixW, anyW, allW, addW, slLoW, slHiW, sliceW, augF]
    refine ⟨_, asg_free rfl h4, ?_⟩
    simp
    refine wordS_ok ht (by omega) fun ds2 n hn => ?_
    refine join_ok ht h5 hn fun ds3 w lw => ?_
    refine wordI_ok (L := 100 + ws.length) (by omega) (by omega) (by omega) hw (by omega) fun w2 l2 nw => ?_
    simp [wSs, wS, wT, wE, wEs, wZ, wO, wI, opW, derefs, deref, readW, one, two, lenW, eqW, truthy, toIntW, toListW, toTupW, onI, mtTy, frz, wipeF, restF, isOwn, argSls, argSl, borrows, giveBack, srcDs, itemsOf, seqItems, srcBors, rfBor, frzSrc, isTmp, inW, isNW, itemsT, indexLW, indexTW, ixW, anyW, allW, addW, slLoW, slHiW, sliceW, augF]
    refine ⟨Nat.lt_of_le_of_lt (show ws.length ≤ 100 by omega) (small1000 (by decide)), ?_⟩
    refine hnx _ ⟨ds3, ws ++ [w2], _, _, _, by simp [lS]; exact ⟨rfl, rfl, rfl⟩, free_v, free_v, free_v, by simp; omega, ?_, fun x hx => ?_⟩
    · refine List.nodup_append.mpr ⟨nd, by simp, fun a ha b hb e => ?_⟩
      cases List.mem_singleton.mp hb
      exact nw (e ▸ ha)
    · rw [List.length_append]
      rcases List.mem_append.mp hx with z | z
      · have := hw x z
        simp; omega
      · cases List.mem_singleton.mp z
        simp; omega
  · rintro fr ⟨ds, ws, s3, s4, s5, rfl, h3, h4, h5, hl, nd, hw⟩
    have hl : ws.length = m.toNat := by simpa using hl
    simp [wSs, wS, wT, wE, wEs, wZ, wO, wI, opW, derefs, deref, readW, one, two, lenW, eqW, truthy, toIntW, toListW, toTupW, onI, mtTy, frz, asgT, asgAll, putSl, wipeF, restF, isOwn, argSls, argSl, borrows, giveBack, srcDs, itemsOf, seqItems, srcBors, rfBor, frzSrc, isTmp, inW, isNW, itemsT, indexLW, indexTW, ixW, anyW, allW, addW, slLoW, slHiW, sliceW, augF]
    exact q _ _ _ hl nd fun x hx => by
      have := hw x hx
      omega
end QL
set_option maxHeartbeats 1500000
/-! MH: shuffles, subsets, ties drawn -/
namespace QL
open PySem L2
def bShB (t : Nat) : CSs := (.cons (.ex (.mt .insert (.v 2) (.cons (.fz (.call t (.cons (.v 0) (.cons (.fz (.op .add (.cons (.op .len (.cons (.v 2) .nil)) (.cons (.k (.int 1)) .nil)))) .nil)))) (.cons (.fz (.v 3)) .nil)))) .nil)
def bShF (t : Nat) : CS := (.for (.n 3) (.seq (.v 1)) (bShB t))
def bShuf (t : Nat) : CSs := (.cons (.set (.n 2) (.lst .nil)) (.cons (bShF t) (.cons (.ret (.v 2)) .nil)))
def ShufOk (C : WC) (i : Nat) : Prop := ∀ (ds : List Int) (d : D) (xs : List D) (Q : Rf → List Sl → Prop), (d = .lst xs ∨ d = .tup xs) → xs.length ≤ 1000 → (∀ (ds : List Int) (ys : List D) s, ys.Perm xs → Q (.tmp (.lst ys)) [oI ds, s]) → C i [oI ds, .val d] Q
theorem insert_perm {α : Type} (xs : List α) (x : α) (n : Nat) : (xs.take n ++ x :: xs.drop n).Perm (x :: xs) := by
  refine List.perm_middle.trans ?_
  rw [List.take_append_drop]
theorem shuf_ok {C : WC} {t : Nat} (ht : TakeOk C t) {ds : List Int} {d : D} {xs : List D} {Q : Rf → List Sl → Prop} (hd : d = .lst xs ∨ d = .tup xs) (hl : xs.length ≤ 1000) (q : ∀ (ds : List Int) (ys : List D) s, ys.Perm xs → Q (.tmp (.lst ys)) [oI ds, s]) :
    FnW C 2 4 (bShuf t) [oI ds, .val d] Q := by
  refine ⟨rfl, ?_⟩
  have loop : forGo (wSs C (bShB t)) (.n 3) xs [oI ds, .val d, .own false (.lst []), .none] { nx := fun fr' => wSs C (.cons (.ret (.v 2)) .nil) fr' { nx := fun fr => Q (.val .non) (outF 2 fr), rt := fun r fr => Q r (outF 2 fr) }, rt := fun r fr => Q r (outF 2 fr) } := by
    refine forGo_inv (I := fun zs fr => ∃ (ds : List Int) (ps ys : List D) (s3 : Sl), fr = [oI ds, .val d, .own false (.lst ys), s3] ∧ Free s3 ∧ xs = ps ++ zs ∧ ys.Perm ps) ?_ ?_ ⟨ds, [], [], .none, rfl, free_n, rfl, .nil⟩
    · rintro x r fr ⟨ds, ps, ys, s3, rfl, h3, e, pm⟩
      refine ⟨_, asg_free rfl h3, fun nx hnx => ?_⟩
      have yl : ys.length ≤ 1000 := by
        have := congrArg List.length e
        rw [List.length_append, ← pm.length_eq] at this
        omega
      unfold bShB
      simp [wSs, wS, wT, wE, wEs, wZ, wO, wI, opW, derefs, deref, readW, one, two, lenW, eqW, truthy, toIntW, toListW, toTupW, onI, mtTy, frz, wipeF, restF, isOwn, argSls, argSl, borrows, giveBack, srcDs, itemsOf, seqItems, srcBors, rfBor, frzSrc, isTmp, inW, isNW, itemsT, indexLW, indexTW, ixW, anyW, allW, addW, slLoW, slHiW, sliceW, augF]
      refine ht _ _ _ _ (by omega) fun ds' v s k0 k1 => ?_
      simp [wSs, wS, wT, wE, wEs, wZ, wO, wI, opW, derefs, deref, readW, one, two, lenW, eqW, truthy, toIntW, toListW, toTupW, onI, mtTy, frz, wipeF, restF, isOwn, argSls, argSl, borrows, giveBack, srcDs, itemsOf, seqItems, srcBors, rfBor, frzSrc, isTmp, inW, isNW, itemsT, indexLW, indexTW, ixW, anyW, allW, addW, slLoW, slHiW, sliceW, augF]
      refine ⟨k0, by omega, small1000 yl, ?_⟩
      exact hnx _ ⟨ds', ps ++ [x], _, _, rfl, free_v, by rw [e]; simp, (insert_perm ys x v.toNat).trans (((List.Perm.cons x pm)).trans (List.perm_append_singleton x ps).symm)⟩
    · rintro fr ⟨ds, ps, ys, s3, rfl, h3, e, pm⟩
      simp [wSs, wS, wT, wE, wEs, wZ, wO, wI, opW, derefs, deref, readW, one, two, lenW, eqW, truthy, toIntW, toListW, toTupW, onI, mtTy, frz, asgT, asgAll, putSl, wipeF, restF, isOwn, argSls, argSl, borrows, giveBack, srcDs, itemsOf, seqItems, srcBors, rfBor, frzSrc, isTmp, inW, isNW, itemsT, indexLW, indexTW, ixW, anyW, allW, addW, slLoW, slHiW, sliceW, augF]
      rw [List.append_nil] at e
      exact q _ _ _ (e ▸ pm)
  unfold bShuf
  rcases hd with rfl | rfl
  · simp [wSs, wS, wT, wE, wEs, wZ, wO, wI, opW, derefs, deref, readW, one, two, lenW, eqW, truthy, toIntW, toListW, toTupW, onI, mtTy, frz, asgT, asgAll, putSl, wipeF, restF, isOwn, argSls, argSl, borrows, giveBack, srcDs, itemsOf, seqItems, srcBors, rfBor, frzSrc, isTmp, inW, isNW, itemsT, indexLW, indexTW, ixW, anyW, allW, addW, slLoW, slHiW, sliceW, augF]
    unfold bShF
    simp [wSs, wS, wT, wE, wEs, wZ, wO, wI, opW, derefs, deref, readW, one, two, lenW, eqW, truthy, toIntW, toListW, toTupW, onI, mtTy, frz, wipeF, restF, isOwn, argSls, argSl, borrows, giveBack, srcDs, itemsOf, seqItems, srcBors, rfBor, frzSrc, isTmp, inW, isNW, itemsT, indexLW, indexTW, ixW, anyW, allW, addW, slLoW, slHiW, sliceW, augF]
    exact loop
  · simp [wSs, wS, wT, wE, wEs, wZ, wO, wI, opW, derefs, deref, readW, one, two, lenW, eqW, truthy, toIntW, toListW, toTupW, onI, mtTy, frz, asgT, asgAll, putSl, wipeF, restF, isOwn, argSls, argSl, borrows, giveBack, srcDs, itemsOf, seqItems, srcBors, rfBor, frzSrc, isTmp, inW, isNW, itemsT, indexLW, indexTW, ixW, anyW, allW, addW, slLoW, slHiW, sliceW, augF]
    unfold bShF
    simp [wSs, wS, wT, wE, wEs, wZ, wO, wI, opW, derefs, deref, readW, one, two, lenW, eqW, truthy, toIntW, toListW, toTupW, onI, mtTy, frz, wipeF, restF, isOwn, argSls, argSl, borrows, giveBack, srcDs, itemsOf, seqItems, srcBors, rfBor, frzSrc, isTmp, inW, isNW, itemsT, indexLW, indexTW, ixW, anyW, allW, addW, slLoW, slHiW, sliceW, augF]
    exact loop
theorem rng_drop {n i : Nat} {x : D} {r : List D} (h : (rngD 0 n).drop i = x :: r) : x = .int (i : Nat) ∧ r = (rngD 0 n).drop (i + 1) ∧ i < n := by
  have hl := (congrArg List.length h)
  rw [List.length_drop, rngD_len, List.length_cons] at hl
  have hi : i < (rngD 0 n).length := by rw [rngD_len]; omega
  rw [List.drop_eq_getElem_cons hi] at h
  injection h with h1 h2
  refine ⟨?_, h2.symm, by omega⟩
  rw [← h1]
  simp [rngD]
def bSubs : CSs := (.cons (.ret (.op .toTup (.cons (.lc [2] (.n 2) (.rng1 (.op .len (.cons (.v 0) .nil))) (.some (.op .eq (.cons (.op .mod (.cons (.op .toInt (.cons (.op .shr (.cons (.v 1) (.cons (.v 2) .nil))) .nil)) (.cons (.k (.int 2)) .nil))) (.cons (.k (.int 1)) .nil)))) (.op .ix (.cons (.v 0) (.cons (.v 2) .nil)))) .nil))) .nil)
def SubsOk (C : WC) (i : Nat) : Prop := ∀ (xs : List Str) (m : Int) (Q : Rf → List Sl → Prop), xs.length ≤ 1000 → (∀ (ys : List Str) s t, ys.Sublist xs → Q (.val (tS ys)) [s, t]) → C i [.val (tS xs), .val (.int m)] Q
theorem subs_ok {C : WC} {xs : List Str} {m : Int} {Q : Rf → List Sl → Prop} (hl : xs.length ≤ 1000) (q : ∀ (ys : List Str) s t, ys.Sublist xs → Q (.val (tS ys)) [s, t]) : FnW C 2 3 bSubs [.val (tS xs), .val (.int m)] Q := by
  refine ⟨rfl, ?_⟩
  unfold bSubs
  simp [wSs, wS, wT, wE, wEs, wZ, wO, wI, opW, derefs, deref, readW, one, two, lenW, eqW, truthy, toIntW, toListW, toTupW, onI, mtTy, frz, asgT, asgAll, putSl, wipeF, restF, isOwn, argSls, argSl, borrows, giveBack, srcDs, itemsOf, seqItems, srcBors, rfBor, frzSrc, isTmp, inW, isNW, itemsT, indexLW, indexTW, ixW, anyW, allW, addW, slLoW, slHiW, sliceW, augF]
  refine ⟨by omega, by rw [rngD_len]; exact le_line hl, ?_⟩
  refine lcGo_inv (I := fun zs acc fr => ∃ (i : Nat) (ys : List Str), zs = (rngD 0 xs.length).drop i ∧ acc = ys.map .str ∧ ys.Sublist (xs.take i) ∧ fr = [.val (tS xs), .val (.int m), .none]) ?_ ?_ ⟨0, [], rfl, rfl, List.Sublist.refl _, rfl⟩
  · rintro x r acc fr ⟨i, ys, e, rfl, sb, rfl⟩
    obtain ⟨rfl, rfl, hi⟩ := rng_drop e.symm
    have ex : atI (xs.map D.str) (i : Nat) = some (.str xs[i]) := atI_nat (by rw [List.getElem?_map, List.getElem?_eq_getElem hi]; rfl)
    refine ⟨rfl, fun K k1 k2 => ?_⟩
    have e1 : xs.take (i + 1) = xs.take i ++ [xs[i]] := by rw [List.take_add_one, List.getElem?_eq_getElem hi]; rfl
    simp [wSs, wS, wT, wE, wEs, wZ, wO, wI, opW, derefs, deref, readW, one, two, lenW, eqW, truthy, toIntW, toListW, toTupW, onI, mtTy, frz, asgT, asgAll, putSl, wipeF, restF, isOwn, argSls, argSl, borrows, giveBack, srcDs, itemsOf, seqItems, srcBors, rfBor, frzSrc, isTmp, inW, isNW, itemsT, indexLW, indexTW, ixW, anyW, allW, addW, slLoW, slHiW, sliceW, augF, ex]
    split
    · exact k1 _ _ ⟨i + 1, ys ++ [xs[i]], rfl, by simp, by rw [e1]; exact sb.append (List.Sublist.refl _), rfl⟩
    · exact k2 _ ⟨i + 1, ys, rfl, rfl, by rw [e1]; exact sb.trans (List.sublist_append_left ..), rfl⟩
  · rintro acc fr ⟨i, ys, e, rfl, sb, rfl⟩
    refine ⟨rfl, ?_⟩
    simp [wSs, wS, wT, wE, wEs, wZ, wO, wI, opW, derefs, deref, readW, one, two, lenW, eqW, truthy, toIntW, toListW, toTupW, onI, mtTy, frz, asgT, asgAll, putSl, wipeF, restF, isOwn, argSls, argSl, borrows, giveBack, srcDs, itemsOf, seqItems, srcBors, rfBor, frzSrc, isTmp, inW, isNW, itemsT, indexLW, indexTW, ixW, anyW, allW, addW, slLoW, slHiW, sliceW, augF]
    exact q _ _ _ (sb.trans (List.take_sublist ..))
def bFewF (t p : Nat) : CS := (.for (.n 4) (.rng1 (.call t (.cons (.v 0) (.cons (.fz (.op .add (.cons (.v 2) (.cons (.k (.int 1)) .nil)))) .nil)))) (.cons (.ite (.op .gt (.cons (.op .len (.cons (.v 1) .nil)) (.cons (.k (.int 0)) .nil))) (.cons (.ex (.mt .append (.v 3) (.cons (.fz (.call p (.cons (.v 0) (.cons (.fz (.v 1)) .nil)))) .nil))) .nil) .nil) .nil))
def bFew (t p : Nat) : CSs := (.cons (.set (.n 3) (.lst .nil)) (.cons (bFewF t p) (.cons (.ret (.op .toTup (.cons (.op .sortSet (.cons (.v 3) .nil)) .nil))) .nil)))
def FewOk (C : WC) (i : Nat) : Prop := ∀ (ds : List Int) (cs : List Str) (m : Int) (Q : Rf → List Sl → Prop), 0 ≤ m → m ≤ 100 → (∀ (ds : List Int) (ys : List Str) s t, Srt ys → (∀ x ∈ ys, x ∈ cs) → ys.length ≤ m → Q (.val (tS ys)) [oI ds, s, t]) → C i [oI ds, .val (tS cs), .val (.int m)] Q
theorem few_ok {C : WC} {t p : Nat} (ht : TakeOk C t) (hp : PickOk C p) {ds : List Int} {cs : List Str} {m : Int} {Q : Rf → List Sl → Prop} (h0 : 0 ≤ m) (h1 : m ≤ 100)
    (q : ∀ (ds : List Int) (ys : List Str) s t, Srt ys → (∀ x ∈ ys, x ∈ cs) → ys.length ≤ m → Q (.val (tS ys)) [oI ds, s, t]) : FnW C 3 5 (bFew t p) [oI ds, .val (tS cs), .val (.int m)] Q := by
  refine ⟨rfl, ?_⟩
  unfold bFew
  simp [wSs, wS, wT, wE, wEs, wZ, wO, wI, opW, derefs, deref, readW, one, two, lenW, eqW, truthy, toIntW, toListW, toTupW, onI, mtTy, frz, asgT, asgAll, putSl, wipeF, restF, isOwn, argSls, argSl, borrows, giveBack, srcDs, itemsOf, seqItems, srcBors, rfBor, frzSrc, isTmp, inW, isNW, itemsT, indexLW, indexTW, ixW, anyW, allW, addW, slLoW, slHiW, sliceW, augF]
  unfold bFewF
  simp [wSs, wS, wT, wE, wEs, wZ, wO, wI, opW, derefs, deref, readW, one, two, lenW, eqW, truthy, toIntW, toListW, toTupW, onI, mtTy, frz, wipeF, restF, isOwn, argSls, argSl, borrows, giveBack, srcDs, itemsOf, seqItems, srcBors, rfBor, frzSrc, isTmp, inW, isNW, itemsT, indexLW, indexTW, ixW, anyW, allW, addW, slLoW, slHiW, sliceW, augF]
  refine ht _ _ _ _ (by omega) fun ds1 v s k0 k1 => ?_
  simp [wSs, wS, wT, wE, wEs, wZ, wO, wI, opW, derefs, deref, readW, one, two, lenW, eqW, truthy, toIntW, toListW, toTupW, onI, mtTy, frz, wipeF, restF, isOwn, argSls, argSl, borrows, giveBack, srcDs, itemsOf, seqItems, srcBors, rfBor, frzSrc, isTmp, inW, isNW, itemsT, indexLW, indexTW, ixW, anyW, allW, addW, slLoW, slHiW, sliceW, augF]
  refine ⟨⟨by omega, by omega⟩, ?_⟩
  refine forGo_inv (I := fun zs fr => ∃ (ds : List Int) (fs : List Str) (s4 : Sl), fr = [oI ds, .val (tS cs), .val (.int m), .own false (lS fs), s4] ∧ Free s4 ∧ (zs.length + fs.length : Int) ≤ m ∧ ∀ x ∈ fs, x ∈ cs) ?_ ?_ ⟨ds1, [], .none, rfl, free_n, by rw [rngD_len]; simp; omega, fun x h => (by cases h)⟩
  · rintro x r fr ⟨ds, fs, s4, rfl, h4, hl, hm⟩
    simp only [List.length_cons] at hl
    refine ⟨_, asg_free rfl h4, fun nx hnx => ?_⟩
    simp [wSs, wS, wT, wE, wEs, wZ, wO, wI, opW, derefs, deref, readW, one, two, lenW, eqW, truthy, toIntW, toListW, toTupW, onI, mtTy, frz, wipeF, restF, isOwn, argSls, argSl, borrows, giveBack, srcDs, itemsOf, seqItems, srcBors, rfBor, frzSrc, isTmp, inW, isNW, itemsT, indexLW, indexTW, ixW, anyW, allW, addW, slLoW, slHiW, sliceW, augF, gtW]
    by_cases e : 0 < cs.length
    · rw [if_pos e]
      refine hp _ _ _ (cs.map .str) _ (.inl rfl) (fun z => by rw [List.map_eq_nil_iff] at z; rw [z] at e; cases e) fun ds2 x2 s2 hx2 => ?_
      obtain ⟨y, hy, rfl⟩ := List.mem_map.mp hx2
      simp [wSs, wS, wT, wE, wEs, wZ, wO, wI, opW, derefs, deref, readW, one, two, lenW, eqW, truthy, toIntW, toListW, toTupW, onI, mtTy, frz, wipeF, restF, isOwn, argSls, argSl, borrows, giveBack, srcDs, itemsOf, seqItems, srcBors, rfBor, frzSrc, isTmp, inW, isNW, itemsT, indexLW, indexTW, ixW, anyW, allW, addW, slLoW, slHiW, sliceW, augF]
      refine ⟨Nat.lt_of_le_of_lt (show fs.length ≤ 100 by omega) (small1000 (by decide)), ?_⟩
      refine hnx _ ⟨ds2, fs ++ [y], .val x, by simp [lS], free_v, by rw [List.length_append]; simp; omega, fun z hz => ?_⟩
      rcases List.mem_append.mp hz with z1 | z1
      · exact hm z z1
      · cases List.mem_singleton.mp z1
        exact hy
    · rw [if_neg e]
      exact hnx _ ⟨ds, fs, _, rfl, free_v, by omega, hm⟩
  · rintro fr ⟨ds, fs, s4, rfl, h4, hl, hm⟩
    have hl : (fs.length : Int) ≤ m := by simpa using hl
    simp [wSs, wS, wT, wE, wEs, wZ, wO, wI, opW, derefs, deref, readW, one, two, lenW, eqW, truthy, toIntW, toListW, toTupW, onI, mtTy, frz, asgT, asgAll, putSl, wipeF, restF, isOwn, argSls, argSl, borrows, giveBack, srcDs, itemsOf, seqItems, srcBors, rfBor, frzSrc, isTmp, inW, isNW, itemsT, indexLW, indexTW, ixW, anyW, allW, addW, slLoW, slHiW, sliceW, augF, sortSetW]
    refine ⟨by omega, fun ys y1 y2 y3 => ?_⟩
    simp [wSs, wS, wT, wE, wEs, wZ, wO, wI, opW, derefs, deref, readW, one, two, lenW, eqW, truthy, toIntW, toListW, toTupW, onI, mtTy, frz, asgT, asgAll, putSl, wipeF, restF, isOwn, argSls, argSl, borrows, giveBack, srcDs, itemsOf, seqItems, srcBors, rfBor, frzSrc, isTmp, inW, isNW, itemsT, indexLW, indexTW, ixW, anyW, allW, addW, slLoW, slHiW, sliceW, augF]
    have yl := nodup_len y2 fun x hx => (y3 x).mp hx
    exact q _ ys _ _ ⟨y1, y2⟩ (fun x hx => hm x ((y3 x).mp hx)) (by omega)
def bAny (b t : Nat) : CSs := (.cons (.ret (.call b (.cons (.fz (.v 1)) (.cons (.fz (.call t (.cons (.v 0) (.cons (.fz (.op .shl (.cons (.k (.int 1)) (.cons (.op .len (.cons (.v 1) .nil)) .nil)))) .nil)))) .nil)))) .nil)
def AnyOk (C : WC) (i : Nat) : Prop := ∀ (ds : List Int) (cs : List Str) (Q : Rf → List Sl → Prop), cs.length ≤ 1000 → (∀ (ds : List Int) (ys : List Str) s, ys.Sublist cs → Q (.val (tS ys)) [oI ds, s]) → C i [oI ds, .val (tS cs)] Q
theorem any_ok {C : WC} {b t : Nat} (hb : SubsOk C b) (ht : TakeOk C t) {ds : List Int} {cs : List Str} {Q : Rf → List Sl → Prop} (hl : cs.length ≤ 1000) (q : ∀ (ds : List Int) (ys : List Str) s, ys.Sublist cs → Q (.val (tS ys)) [oI ds, s]) : FnW C 2 2 (bAny b t) [oI ds, .val (tS cs)] Q := by
  refine ⟨rfl, ?_⟩
  unfold bAny
  simp [wSs, wS, wT, wE, wEs, wZ, wO, wI, opW, derefs, deref, readW, one, two, lenW, eqW, truthy, toIntW, toListW, toTupW, onI, mtTy, frz, asgT, asgAll, putSl, wipeF, restF, isOwn, argSls, argSl, borrows, giveBack, srcDs, itemsOf, seqItems, srcBors, rfBor, frzSrc, isTmp, inW, isNW, itemsT, indexLW, indexTW, ixW, anyW, allW, addW, slLoW, slHiW, sliceW, augF]
  refine ⟨⟨by omega, by omega, by decide⟩, ?_⟩
  refine ht _ _ _ _ (Int.pow_pos (by decide)) fun ds1 v s k0 k1 => ?_
  simp [wSs, wS, wT, wE, wEs, wZ, wO, wI, opW, derefs, deref, readW, one, two, lenW, eqW, truthy, toIntW, toListW, toTupW, onI, mtTy, frz, asgT, asgAll, putSl, wipeF, restF, isOwn, argSls, argSl, borrows, giveBack, srcDs, itemsOf, seqItems, srcBors, rfBor, frzSrc, isTmp, inW, isNW, itemsT, indexLW, indexTW, ixW, anyW, allW, addW, slLoW, slHiW, sliceW, augF]
  refine hb _ _ _ hl fun ys s1 s2 sb => ?_
  simp [wSs, wS, wT, wE, wEs, wZ, wO, wI, opW, derefs, deref, readW, one, two, lenW, eqW, truthy, toIntW, toListW, toTupW, onI, mtTy, frz, asgT, asgAll, putSl, wipeF, restF, isOwn, argSls, argSl, borrows, giveBack, srcDs, itemsOf, seqItems, srcBors, rfBor, frzSrc, isTmp, inW, isNW, itemsT, indexLW, indexTW, ixW, anyW, allW, addW, slLoW, slHiW, sliceW, augF]
  exact q _ ys _ sb
theorem Srt.sub {ys cs : List Str} (h : Srt cs) (s : ys.Sublist cs) : Srt ys := ⟨h.1.sublist s, h.2.sublist s⟩
end QL
set_option maxHeartbeats 1500000
/-! MI: ties drawn, cases -/
namespace QL
open PySem L2
def unStr : D → Str
  | .str x => x
  | _ => Str.empty
def unTup : D → List D
  | .tup x => x
  | _ => []
def unTie : D → Tie
  | .tup [a, b] => ((unTup a).map unStr, (unTup b).map unStr)
  | _ => ([], [])
theorem unStr_map {xs : List Str} : (xs.map D.str).map unStr = xs := by
  rw [List.map_map]
  exact List.map_id' xs
theorem unTie_tieD {t : Tie} : unTie (tieD t) = t := by
  show ((t.1.map D.str).map unStr, (t.2.map D.str).map unStr) = t
  rw [unStr_map, unStr_map]
theorem perm_inv {α : Type} {f : α → D} {g : D → α} (h : ∀ x, g (f x) = x) {ys : List D} {cs : List α} (p : ys.Perm (cs.map f)) : ∃ rs : List α, ys = rs.map f ∧ rs.Perm cs := by
  refine ⟨ys.map g, ?_, ?_⟩
  · rw [List.map_map]
    have : ∀ y ∈ ys, (f ∘ g) y = y := fun y hy => by
      obtain ⟨x, _, rfl⟩ := List.mem_map.mp (p.mem_iff.mp hy)
      show f (g (f x)) = f x
      rw [h]
    exact ((List.map_congr_left this).trans (List.map_id' ys)).symm
  · have := p.map g
    rw [List.map_map] at this
    exact this.trans (by rw [show g ∘ f = id from funext h, List.map_id])
theorem sub_inv {α : Type} {f : α → D} {ys : List D} {cs : List α} (p : ys.Sublist (cs.map f)) : ∃ rs : List α, ys = rs.map f ∧ rs.Sublist cs := by
  obtain ⟨rs, h1, h2⟩ := List.sublist_map_iff.mp p
  exact ⟨rs, h2, h1⟩
abbrev chTie (rs : List Str) (i : Nat) : Tie := ([rs.getD i Str.empty], [rs.getD (i + 1) Str.empty])
def chainT (rs : List Str) (n : Nat) : List Tie := (List.range n).map (chTie rs)
theorem chain_go {turn : D → Fr → (Option D → Fr → Prop) → Prop} {os : List Nat} {fr0 : Fr} {R : List D → Fr → Prop} {rs : List Str} {n : Nat} (ht : ∀ i : Nat, i < n → ∃ fr', wipeF fr' os = fr0 ∧ ∀ K : Option D → Fr → Prop, K (some (tieD (chTie rs i))) fr' → turn (.int i) fr0 K)
    (hR : R ((chainT rs n).map tieD) fr0) : lcGo (.rng 0 n) [] os turn (rngD 0 n) [] fr0 R := by
  refine lcGo_pure (fun d => match d with | .int i => some (tieD (chTie rs i.toNat)) | _ => none) rfl (fun x hx => ?_) ?_
  · obtain ⟨i, rfl, hi⟩ := rngD_get hx
    exact ht i hi
  · rw [List.nil_append]
    have : (rngD 0 n).filterMap (fun d => match d with | .int i => some (tieD (chTie rs i.toNat)) | _ => none) = (chainT rs n).map tieD := by
      unfold rngD chainT
      rw [List.filterMap_map, List.map_map]
      rw [← List.filterMap_eq_map]
      congr 1
      funext i
      simp
    rw [this]
    exact hR
theorem atI_str {rs : List Str} {i : Nat} (h : i < rs.length) : atI (rs.map D.str) (i : Nat) = some (.str (rs.getD i Str.empty)) := by
  refine atI_nat ?_
  (rw [List.getElem?_map, List.getElem?_eq_getElem h, List.getD_eq_getElem?_getD, List.getElem?_eq_getElem h])
  rfl
theorem chain_tok {rs : List Str} {n : Nat} {t : Tie} (h : t ∈ chainT rs n) : t.1.length = 1 ∧ t.2.length = 1 ∧ t.2.Nodup := by
  obtain ⟨i, _, rfl⟩ := List.mem_map.mp h
  exact ⟨rfl, rfl, by simp⟩
/-- the first part: a chain -/
def bTiA (sh : Nat) : CSs := (.cons (.set (.n 3) (.call sh (.cons (.v 0) (.cons (.fz (.v 1)) .nil)))) (.cons (.setLc 4 (.lc [6] (.n 6) (.rng1 (.op .sub (.cons (.op .len (.cons (.v 3) .nil)) (.cons (.k (.int 1)) .nil)))) .none (.tup (.cons (.tup (.cons (.op .ix (.cons (.v 3) (.cons (.v 6) .nil))) .nil)) (.cons (.tup (.cons (.op .ix (.cons (.v 3) (.cons (.op .add (.cons (.v 6) (.cons (.k (.int 1)) .nil))) .nil))) .nil)) .nil))))) (.cons (.ret (.op .toTup (.cons (.op .slHi (.cons (.call sh (.cons (.v 0) (.cons (.fz (.v 4)) .nil))) (.cons (.v 2) .nil))) .nil))) .nil)))
def bTiX (a : Nat) : CSs := (.cons (.ex (.mt .append (.v 5) (.cons (.fz (.tup (.cons (.call a (.cons (.v 0) (.cons (.fz (.v 1)) .nil))) (.cons (.call a (.cons (.v 0) (.cons (.fz (.v 1)) .nil))) .nil)))) .nil))) .nil)
def bTiY (f : Nat) : CSs := (.cons (.ex (.mt .append (.v 5) (.cons (.fz (.tup (.cons (.call f (.cons (.v 0) (.cons (.fz (.v 1)) (.cons (.fz (.k (.int 2))) .nil)))) (.cons (.call f (.cons (.v 0) (.cons (.fz (.v 1)) (.cons (.fz (.k (.int 2))) .nil)))) .nil)))) .nil))) .nil)
def bTiI (t f a : Nat) : CS := (.ite (.op .eq (.cons (.call t (.cons (.v 0) (.cons (.fz (.k (.int 5))) .nil))) (.cons (.k (.int 0)) .nil))) (bTiX a) (bTiY f))
def bTiF (t f a : Nat) : CS := (.for (.n 6) (.rng1 (.call t (.cons (.v 0) (.cons (.fz (.op .add (.cons (.v 2) (.cons (.k (.int 1)) .nil)))) .nil)))) (.cons (bTiI t f a) .nil))
def bTies (t sh f a : Nat) : CSs := (.cons (.ite (.op .eq (.cons (.call t (.cons (.v 0) (.cons (.fz (.k (.int 4))) .nil))) (.cons (.k (.int 0)) .nil))) (bTiA sh) .nil) (.cons (.set (.n 5) (.lst .nil)) (.cons (bTiF t f a) (.cons (.ret (.op .toTup (.cons (.v 5) .nil))) .nil))))
def TiesOk (C : WC) (i : Nat) : Prop := ∀ (ds : List Int) (cs : List Str) (Q : Rf → List Sl → Prop), Srt cs → cs.length ≤ 8 → (∀ (ds : List Int) (ts : List Tie) s t, TOk ts → ts.length ≤ 8 → Q (.val (tiesD ts)) [oI ds, s, t]) → C i [oI ds, .val (tS cs), .val (.int 8)] Q
theorem cut_sub {xs : List D} {lo hi : Option Int} : (cutD xs lo hi).Sublist xs := (List.take_sublist ..).trans (List.drop_sublist ..)
theorem tiA_ok {C : WC} {sh : Nat} (hs : ShufOk C sh) {ds : List Int} {cs : List Str} {Q : Rf → List Sl → Prop} {E : En} (hl : cs.length ≤ 8) (q : ∀ (ds : List Int) (ts : List Tie) s t, TOk ts → ts.length ≤ 8 → Q (.val (tiesD ts)) [oI ds, s, t]) (eE : E.rt = fun r fr => Q r (outF 3 fr)) :
    wSs C (bTiA sh) [oI ds, .val (tS cs), .val (.int 8), .none, .none, .none, .none] E := by
  unfold bTiA
  simp [wSs, wS, wT, wE, wEs, wZ, wO, wI, opW, derefs, deref, readW, one, two, lenW, eqW, truthy, toIntW, toListW, toTupW, onI, mtTy, frz, asgT, asgAll, putSl, wipeF, restF, isOwn, argSls, argSl, borrows, giveBack, srcDs, itemsOf, seqItems, srcBors, rfBor, frzSrc, isTmp, inW, isNW, itemsT, indexLW, indexTW, ixW, anyW, allW, addW, slLoW, slHiW, sliceW, augF]
  refine hs _ _ _ _ (.inr rfl) (by simp; omega) fun ds1 ys s pm => ?_
  obtain ⟨rs, rfl, pm'⟩ := perm_inv (f := D.str) (g := unStr) (fun _ => rfl) pm
  have rl := pm'.length_eq
  simp [wSs, wS, wT, wE, wEs, wZ, wO, wI, opW, derefs, deref, readW, one, two, lenW, eqW, truthy, toIntW, toListW, toTupW, onI, mtTy, frz, asgT, asgAll, putSl, wipeF, restF, isOwn, argSls, argSl, borrows, giveBack, srcDs, itemsOf, seqItems, srcBors, rfBor, frzSrc, isTmp, inW, isNW, itemsT, indexLW, indexTW, ixW, anyW, allW, addW, slLoW, slHiW, sliceW, augF]
  refine ⟨⟨by omega, by omega⟩, by rw [rngD_len]; exact le_line (by omega), chain_go (rs := rs) (fun i hi => ?_) ?_⟩
  · refine ⟨[oI ds1, .val (tS cs), .val (.int 8), .own false (lS rs), .none, .none, .val (.int i)], rfl, fun K hK => ?_⟩
    have e1 := atI_str (rs := rs) (i := i) (by omega)
    have e2 := atI_str (rs := rs) (i := i + 1) (by omega)
    simp only [Int.natCast_add, Int.natCast_one] at e2
    simp [wSs, wS, wT, wE, wEs, wZ, wO, wI, opW, derefs, deref, readW, one, two, lenW, eqW, truthy, toIntW, toListW, toTupW, onI, mtTy, frz, asgT, asgAll, putSl, wipeF, restF, isOwn, argSls, argSl, borrows, giveBack, srcDs, itemsOf, seqItems, srcBors, rfBor, frzSrc, isTmp, inW, isNW, itemsT, indexLW, indexTW, ixW, anyW, allW, addW, slLoW, slHiW, sliceW, augF, e1, e2]
    exact ⟨le_line (by decide), le_line (by decide), hK⟩
  · simp [wSs, wS, wT, wE, wEs, wZ, wO, wI, opW, derefs, deref, readW, one, two, lenW, eqW, truthy, toIntW, toListW, toTupW, onI, mtTy, frz, asgT, asgAll, putSl, wipeF, restF, isOwn, argSls, argSl, borrows, giveBack, srcDs, itemsOf, seqItems, srcBors, rfBor, frzSrc, isTmp, inW, isNW, itemsT, indexLW, indexTW, ixW, anyW, allW, addW, slLoW, slHiW, sliceW, augF]
    refine hs _ _ _ _ (.inl rfl) (by simp [chainT]; omega) fun ds2 zs s2 pm2 => ?_
    obtain ⟨ts, rfl, pm3⟩ := perm_inv (f := tieD) (g := unTie) (fun _ => unTie_tieD) pm2
    simp [wSs, wS, wT, wE, wEs, wZ, wO, wI, opW, derefs, deref, readW, one, two, lenW, eqW, truthy, toIntW, toListW, toTupW, onI, mtTy, frz, asgT, asgAll, putSl, wipeF, restF, isOwn, argSls, argSl, borrows, giveBack, srcDs, itemsOf, seqItems, srcBors, rfBor, frzSrc, isTmp, inW, isNW, itemsT, indexLW, indexTW, ixW, anyW, allW, addW, slLoW, slHiW, sliceW, augF]
    rw [eE]
    obtain ⟨us, eu, su⟩ := sub_inv (f := tieD) (cut_sub (xs := ts.map tieD) (lo := none) (hi := some 8))
    have hin : ∀ t ∈ us, t.1.length = 1 ∧ t.2.length = 1 ∧ t.2.Nodup := fun t ht => chain_tok (pm3.mem_iff.mp (su.subset ht))
    have ul : us.length ≤ 8 := by
      have h1 := su.length_le
      have h2 := pm3.length_eq
      simp [chainT] at h2
      omega
    rw [eu]
    exact q _ us _ _ ⟨by omega, fun t ht => ⟨by rw [(hin t ht).1]; decide, by rw [(hin t ht).2.1]; decide⟩, fun t ht => (hin t ht).2.2⟩ ul
end QL
set_option maxHeartbeats 1500000
/-! MJ: ties and cases -/
namespace QL
open PySem L2
theorem srt_len {ys cs : List Str} (h : Srt ys) (hs : ∀ x ∈ ys, x ∈ cs) : ys.length ≤ cs.length := nodup_len h.2 hs
/-- a tie that was drawn -/
def DTie (t : Tie) : Prop := t.1.length ≤ 12 ∧ t.2.length ≤ 12 ∧ t.2.Nodup
theorem tiI_ok {C : WC} {t f a : Nat} (ht : TakeOk C t) (hf : FewOk C f) (ha : AnyOk C a) {ds : List Int} {cs : List Str} {s3 s4 s6 : Sl} {ts : List Tie} {E : En} (hc : Srt cs) (hl : cs.length ≤ 8) (tl : ts.length ≤ 100)
    (q : ∀ (ds : List Int) (t : Tie), DTie t → E.nx [oI ds, .val (tS cs), .val (.int 8), s3, s4, .own false (.lst ((ts ++ [t]).map tieD)), s6]) : wS C (bTiI t f a) [oI ds, .val (tS cs), .val (.int 8), s3, s4, .own false (.lst (ts.map tieD)), s6] E := by
  have tz : ts.length < sizeLine := small1000 (by omega)
  have z2 : (2 : Nat) ≤ sizeLine := le_line (by decide)
  unfold bTiI
  simp [wSs, wS, wT, wE, wEs, wZ, wO, wI, opW, derefs, deref, readW, one, two, lenW, eqW, truthy, toIntW, toListW, toTupW, onI, mtTy, frz, asgT, asgAll, putSl, wipeF, restF, isOwn, argSls, argSl, borrows, giveBack, srcDs, itemsOf, seqItems, srcBors, rfBor, frzSrc, isTmp, inW, isNW, itemsT, indexLW, indexTW, ixW, anyW, allW, addW, slLoW, slHiW, sliceW, augF]
  refine ht _ _ _ _ (by decide) fun ds1 v s k0 k1 => ?_
  simp [wSs, wS, wT, wE, wEs, wZ, wO, wI, opW, derefs, deref, readW, one, two, lenW, eqW, truthy, toIntW, toListW, toTupW, onI, mtTy, frz, asgT, asgAll, putSl, wipeF, restF, isOwn, argSls, argSl, borrows, giveBack, srcDs, itemsOf, seqItems, srcBors, rfBor, frzSrc, isTmp, inW, isNW, itemsT, indexLW, indexTW, ixW, anyW, allW, addW, slLoW, slHiW, sliceW, augF]
  split
  · unfold bTiX
    simp [wSs, wS, wT, wE, wEs, wZ, wO, wI, opW, derefs, deref, readW, one, two, lenW, eqW, truthy, toIntW, toListW, toTupW, onI, mtTy, frz, asgT, asgAll, putSl, wipeF, restF, isOwn, argSls, argSl, borrows, giveBack, srcDs, itemsOf, seqItems, srcBors, rfBor, frzSrc, isTmp, inW, isNW, itemsT, indexLW, indexTW, ixW, anyW, allW, addW, slLoW, slHiW, sliceW, augF]
    refine ha _ _ _ (by omega) fun ds2 y1 s1 b1 => ?_
    simp [wSs, wS, wT, wE, wEs, wZ, wO, wI, opW, derefs, deref, readW, one, two, lenW, eqW, truthy, toIntW, toListW, toTupW, onI, mtTy, frz, asgT, asgAll, putSl, wipeF, restF, isOwn, argSls, argSl, borrows, giveBack, srcDs, itemsOf, seqItems, srcBors, rfBor, frzSrc, isTmp, inW, isNW, itemsT, indexLW, indexTW, ixW, anyW, allW, addW, slLoW, slHiW, sliceW, augF]
    refine ha _ _ _ (by omega) fun ds3 y2 s2 b2 => ?_
    simp [wSs, wS, wT, wE, wEs, wZ, wO, wI, opW, derefs, deref, readW, one, two, lenW, eqW, truthy, toIntW, toListW, toTupW, onI, mtTy, frz, asgT, asgAll, putSl, wipeF, restF, isOwn, argSls, argSl, borrows, giveBack, srcDs, itemsOf, seqItems, srcBors, rfBor, frzSrc, isTmp, inW, isNW, itemsT, indexLW, indexTW, ixW, anyW, allW, addW, slLoW, slHiW, sliceW, augF, tz, z2]
    have := q ds3 (y1, y2) ⟨show y1.length ≤ 12 by have := b1.length_le; omega, show y2.length ≤ 12 by have := b2.length_le; omega, (hc.sub b2).2⟩
    simpa using this
  · unfold bTiY
    simp [wSs, wS, wT, wE, wEs, wZ, wO, wI, opW, derefs, deref, readW, one, two, lenW, eqW, truthy, toIntW, toListW, toTupW, onI, mtTy, frz, asgT, asgAll, putSl, wipeF, restF, isOwn, argSls, argSl, borrows, giveBack, srcDs, itemsOf, seqItems, srcBors, rfBor, frzSrc, isTmp, inW, isNW, itemsT, indexLW, indexTW, ixW, anyW, allW, addW, slLoW, slHiW, sliceW, augF]
    refine hf _ _ _ _ (by decide) (by decide) fun ds2 y1 s1 s1' b1 c1 d1 => ?_
    simp [wSs, wS, wT, wE, wEs, wZ, wO, wI, opW, derefs, deref, readW, one, two, lenW, eqW, truthy, toIntW, toListW, toTupW, onI, mtTy, frz, asgT, asgAll, putSl, wipeF, restF, isOwn, argSls, argSl, borrows, giveBack, srcDs, itemsOf, seqItems, srcBors, rfBor, frzSrc, isTmp, inW, isNW, itemsT, indexLW, indexTW, ixW, anyW, allW, addW, slLoW, slHiW, sliceW, augF]
    refine hf _ _ _ _ (by decide) (by decide) fun ds3 y2 s2 s2' b2 c2 d2 => ?_
    simp [wSs, wS, wT, wE, wEs, wZ, wO, wI, opW, derefs, deref, readW, one, two, lenW, eqW, truthy, toIntW, toListW, toTupW, onI, mtTy, frz, asgT, asgAll, putSl, wipeF, restF, isOwn, argSls, argSl, borrows, giveBack, srcDs, itemsOf, seqItems, srcBors, rfBor, frzSrc, isTmp, inW, isNW, itemsT, indexLW, indexTW, ixW, anyW, allW, addW, slLoW, slHiW, sliceW, augF, tz, z2]
    have := q ds3 (y1, y2) ⟨show y1.length ≤ 12 by omega, show y2.length ≤ 12 by omega, b2.2⟩
    simpa using this
theorem ties_ok {C : WC} {t sh f a : Nat} (ht : TakeOk C t) (hs : ShufOk C sh) (hf : FewOk C f) (ha : AnyOk C a) {ds : List Int} {cs : List Str} {Q : Rf → List Sl → Prop} (hc : Srt cs) (hl : cs.length ≤ 8)
    (q : ∀ (ds : List Int) (ts : List Tie) s t, TOk ts → ts.length ≤ 8 → Q (.val (tiesD ts)) [oI ds, s, t]) : FnW C 3 7 (bTies t sh f a) [oI ds, .val (tS cs), .val (.int 8)] Q := by
  refine ⟨rfl, ?_⟩
  unfold bTies
  simp [wSs, wS, wT, wE, wEs, wZ, wO, wI, opW, derefs, deref, readW, one, two, lenW, eqW, truthy, toIntW, toListW, toTupW, onI, mtTy, frz, asgT, asgAll, putSl, wipeF, restF, isOwn, argSls, argSl, borrows, giveBack, srcDs, itemsOf, seqItems, srcBors, rfBor, frzSrc, isTmp, inW, isNW, itemsT, indexLW, indexTW, ixW, anyW, allW, addW, slLoW, slHiW, sliceW, augF]
  refine ht _ _ _ _ (by decide) fun ds1 v s k0 k1 => ?_
  simp [wSs, wS, wT, wE, wEs, wZ, wO, wI, opW, derefs, deref, readW, one, two, lenW, eqW, truthy, toIntW, toListW, toTupW, onI, mtTy, frz, asgT, asgAll, putSl, wipeF, restF, isOwn, argSls, argSl, borrows, giveBack, srcDs, itemsOf, seqItems, srcBors, rfBor, frzSrc, isTmp, inW, isNW, itemsT, indexLW, indexTW, ixW, anyW, allW, addW, slLoW, slHiW, sliceW, augF]
  split
  · exact tiA_ok hs hl q rfl
  · unfold bTiF
    simp [wSs, wS, wT, wE, wEs, wZ, wO, wI, opW, derefs, deref, readW, one, two, lenW, eqW, truthy, toIntW, toListW, toTupW, onI, mtTy, frz, wipeF, restF, isOwn, argSls, argSl, borrows, giveBack, srcDs, itemsOf, seqItems, srcBors, rfBor, frzSrc, isTmp, inW, isNW, itemsT, indexLW, indexTW, ixW, anyW, allW, addW, slLoW, slHiW, sliceW, augF]
    refine ht _ _ _ _ (by decide) fun ds2 v2 s2 k2 k3 => ?_
    simp [wSs, wS, wT, wE, wEs, wZ, wO, wI, opW, derefs, deref, readW, one, two, lenW, eqW, truthy, toIntW, toListW, toTupW, onI, mtTy, frz, wipeF, restF, isOwn, argSls, argSl, borrows, giveBack, srcDs, itemsOf, seqItems, srcBors, rfBor, frzSrc, isTmp, inW, isNW, itemsT, indexLW, indexTW, ixW, anyW, allW, addW, slLoW, slHiW, sliceW, augF]
    refine ⟨⟨by omega, by omega⟩, ?_⟩
    refine forGo_inv (I := fun zs fr => ∃ (ds : List Int) (ts : List Tie) (s6 : Sl), fr = [oI ds, .val (tS cs), .val (.int 8), .none, .none, .own false (.lst (ts.map tieD)), s6] ∧ Free s6 ∧ zs.length + ts.length ≤ 8 ∧ ∀ t ∈ ts, DTie t) ?_ ?_ ⟨ds2, [], .none, rfl, free_n, by rw [rngD_len]; simp; omega, fun x h => (by cases h)⟩
    · rintro x r fr ⟨ds, ts, s6, rfl, h6, tl, hts⟩
      simp only [List.length_cons] at tl
      refine ⟨_, asg_free rfl h6, fun nx hnx => ?_⟩
      show wS C (bTiI t f a) _ _
      refine tiI_ok ht hf ha hc hl (by omega) fun ds3 t hdt => ?_
      refine hnx _ ⟨ds3, ts ++ [t], .val x, rfl, free_v, by rw [List.length_append]; simp; omega, fun u hu => ?_⟩
      rcases List.mem_append.mp hu with z | z
      · exact hts u z
      · cases List.mem_singleton.mp z
        exact hdt
    · rintro fr ⟨ds, ts, s6, rfl, h6, tl, hts⟩
      have tl : ts.length ≤ 8 := by simpa using tl
      simp [wSs, wS, wT, wE, wEs, wZ, wO, wI, opW, derefs, deref, readW, one, two, lenW, eqW, truthy, toIntW, toListW, toTupW, onI, mtTy, frz, asgT, asgAll, putSl, wipeF, restF, isOwn, argSls, argSl, borrows, giveBack, srcDs, itemsOf, seqItems, srcBors, rfBor, frzSrc, isTmp, inW, isNW, itemsT, indexLW, indexTW, ixW, anyW, allW, addW, slLoW, slHiW, sliceW, augF]
      exact q _ ts _ _ ⟨by omega, fun t ht => ⟨(hts t ht).1, (hts t ht).2.1⟩, fun t ht => (hts t ht).2.2⟩ tl
/-! ### cases -/
def bCase (t ti : Nat) : CSs := (.cons (.set (.n 3) (.op .toTup (.cons (.op .sorted (.cons (.op .slHi (.cons (.v 1) (.cons (.op .add (.cons (.v 2) (.cons (.call t (.cons (.v 0) (.cons (.fz (.op .sub (.cons (.k (.int 7)) (.cons (.v 2) .nil)))) .nil))) .nil))) .nil))) .nil)) .nil))) (.cons (.ret (.lst (.cons (.v 3) (.cons (.call ti (.cons (.v 0) (.cons (.fz (.v 3)) (.cons (.fz (.k (.int 8))) .nil)))) .nil)))) .nil))
theorem cut_take {α : Type} {xs : List D} {v : Int} (h0 : 0 ≤ v) : ∃ n, cutD xs none (some v) = xs.take n ∧ n ≤ v.toNat := by
  unfold cutD
  have e : HT.sIx xs.length 0 none = 0 := HT.sIx_none ..
  rw [e]
  have e2 : HT.sIx xs.length xs.length (some v) = min v.toNat xs.length := by
    have := HT.sIx_nat xs.length xs.length v.toNat
    rw [show ((v.toNat : Nat) : Int) = v by omega] at this
    exact this
  rw [e2]
  exact ⟨min v.toNat xs.length, by simp, Nat.min_le_left ..⟩
def CaseOk (C : WC) (i : Nat) : Prop := ∀ (ds : List Int) (ws : List Str) (Q : Rf → List Sl → Prop), ws.Nodup → ws.length ≤ 1000 → (∀ (ds : List Int) (cs : List Str) (ts : List Tie) s t, Srt cs → cs.length ≤ 8 → TOk ts → ts.length ≤ 8 → Q (.tmp (.lst [tS cs, tiesD ts])) [oI ds, s, t]) → C i [oI ds, .val (lS ws), .val (.int 0)] Q
theorem case_ok {C : WC} {t ti : Nat} (ht : TakeOk C t) (hti : TiesOk C ti) {ds : List Int} {ws : List Str} {Q : Rf → List Sl → Prop} (nd : ws.Nodup) (wl : ws.length ≤ 1000) (q : ∀ (ds : List Int) (cs : List Str) (ts : List Tie) s t, Srt cs → cs.length ≤ 8 → TOk ts → ts.length ≤ 8 → Q (.tmp (.lst [tS cs, tiesD ts])) [oI ds, s, t]) :
    FnW C 3 4 (bCase t ti) [oI ds, .val (lS ws), .val (.int 0)] Q := by
  refine ⟨rfl, ?_⟩
  unfold bCase
  simp [wSs, wS, wT, wE, wEs, wZ, wO, wI, opW, derefs, deref, readW, one, two, lenW, eqW, truthy, toIntW, toListW, toTupW, onI, mtTy, frz, asgT, asgAll, putSl, wipeF, restF, isOwn, argSls, argSl, borrows, giveBack, srcDs, itemsOf, seqItems, srcBors, rfBor, frzSrc, isTmp, inW, isNW, itemsT, indexLW, indexTW, ixW, anyW, allW, addW, slLoW, slHiW, sliceW, augF]
  refine ht _ _ _ _ (by decide) fun ds1 v s k0 k1 => ?_
  obtain ⟨n, en, hn⟩ := cut_take (α := Unit) (xs := ws.map D.str) k0
  simp [wSs, wS, wT, wE, wEs, wZ, wO, wI, opW, derefs, deref, readW, one, two, lenW, eqW, truthy, toIntW, toListW, toTupW, onI, mtTy, frz, asgT, asgAll, putSl, wipeF, restF, isOwn, argSls, argSl, borrows, giveBack, srcDs, itemsOf, seqItems, srcBors, rfBor, frzSrc, isTmp, inW, isNW, itemsT, indexLW, indexTW, ixW, anyW, allW, addW, slLoW, slHiW, sliceW, augF, en, srtW, sortedW]
  rw [← List.map_take]
  refine .inr ⟨_, strsD_map, by rw [List.length_take]; omega, fun ys pm so => ?_⟩
  have yl := pm.length_eq
  rw [List.length_take] at yl
  have sy : Srt ys := ⟨so, pm.nodup_iff.mpr (nd.sublist (List.take_sublist ..))⟩
  refine hti _ _ _ sy (by omega) fun ds2 ts s1 s2 tok tl => ?_
  simp [wSs, wS, wT, wE, wEs, wZ, wO, wI, opW, derefs, deref, readW, one, two, lenW, eqW, truthy, toIntW, toListW, toTupW, onI, mtTy, frz, asgT, asgAll, putSl, wipeF, restF, isOwn, argSls, argSl, borrows, giveBack, srcDs, itemsOf, seqItems, srcBors, rfBor, frzSrc, isTmp, inW, isNW, itemsT, indexLW, indexTW, ixW, anyW, allW, addW, slLoW, slHiW, sliceW, augF]
  exact ⟨le_line (by decide), q _ ys ts _ _ sy (by omega) tok tl⟩
end QL
set_option maxHeartbeats 1500000
/-! MK: more cases, the comparison -/
namespace QL
open PySem L2
def bRow2 (sh : Nat) : CSs := (.cons (.set (.n 3) (.call sh (.cons (.v 0) (.cons (.fz (.v 2)) .nil)))) (.cons (.setLc 4 (.lc [5] (.n 5) (.rng1 (.k (.int 5))) .none (.tup (.cons (.tup (.cons (.op .ix (.cons (.v 3) (.cons (.v 5) .nil))) .nil)) (.cons (.tup (.cons (.op .ix (.cons (.v 3) (.cons (.op .add (.cons (.v 5) (.cons (.k (.int 1)) .nil))) .nil))) .nil)) .nil))))) (.cons (.ret (.lst (.cons (.v 2) (.cons (.op .toTup (.cons (.call sh (.cons (.v 0) (.cons (.fz (.v 4)) .nil))) .nil)) (.cons (.v 3) .nil))))) .nil)))
def bRow (sh : Nat) : CSs := (.cons (.set (.n 2) (.op .toTup (.cons (.op .sorted (.cons (.op .slHi (.cons (.v 1) (.cons (.k (.int 6)) .nil))) .nil)) .nil))) (bRow2 sh))
def RowOk (C : WC) (i : Nat) : Prop := ∀ (ds : List Int) (ws : List Str) (Q : Rf → List Sl → Prop), ws.Nodup → ws.length = 6 → (∀ (ds : List Int) (cs rs : List Str) (ts : List Tie) s, Srt cs → cs.length = 6 → rs.Nodup → rs.length = 6 → ts.Perm (chainT rs 5) → Q (.tmp (.lst [tS cs, tiesD ts, lS rs])) [oI ds, s]) → C i [oI ds, .val (lS ws)] Q
theorem row_ok {C : WC} {sh : Nat} (hs : ShufOk C sh) {ds : List Int} {ws : List Str} {Q : Rf → List Sl → Prop} (nd : ws.Nodup) (wl : ws.length = 6)
    (q : ∀ (ds : List Int) (cs rs : List Str) (ts : List Tie) s, Srt cs → cs.length = 6 → rs.Nodup → rs.length = 6 → ts.Perm (chainT rs 5) → Q (.tmp (.lst [tS cs, tiesD ts, lS rs])) [oI ds, s]) : FnW C 2 6 (bRow sh) [oI ds, .val (lS ws)] Q := by
  refine ⟨rfl, ?_⟩
  have e6 : cutD (ws.map D.str) none (some 6) = ws.map D.str := by
    obtain ⟨n, en, hn⟩ := cut_take (α := Unit) (xs := ws.map D.str) (v := 6) (by decide)
    unfold cutD
    rw [HT.sIx_none]
    have := HT.sIx_nat (ws.map D.str).length (ws.map D.str).length 6
    rw [show HT.sIx (ws.map D.str).length (ws.map D.str).length (some 6) = min 6 (ws.map D.str).length from this]
    rw [List.length_map, wl]
    show ((ws.map D.str).drop 0).take 6 = _
    rw [List.drop_zero]
    exact List.take_of_length_le (by rw [List.length_map]; omega)
  unfold bRow
  simp [wSs, wS, wT, wE, wEs, wZ, wO, wI, opW, derefs, deref, readW, one, two, lenW, eqW, truthy, toIntW, toListW, toTupW, onI, mtTy, frz, asgT, asgAll, putSl, wipeF, restF, isOwn, argSls, argSl, borrows, giveBack, srcDs, itemsOf, seqItems, srcBors, rfBor, frzSrc, isTmp, inW, isNW, itemsT, indexLW, indexTW, ixW, anyW, allW, addW, slLoW, slHiW, sliceW, augF, e6, srtW, sortedW]
  refine .inr ⟨by omega, fun ys pm so => ?_⟩
  have yl : ys.length = 6 := by rw [pm.length_eq, wl]
  have sy : Srt ys := ⟨so, pm.nodup_iff.mpr nd⟩
  unfold bRow2
  simp [wSs, wS, wT, wE, wEs, wZ, wO, wI, opW, derefs, deref, readW, one, two, lenW, eqW, truthy, toIntW, toListW, toTupW, onI, mtTy, frz, asgT, asgAll, putSl, wipeF, restF, isOwn, argSls, argSl, borrows, giveBack, srcDs, itemsOf, seqItems, srcBors, rfBor, frzSrc, isTmp, inW, isNW, itemsT, indexLW, indexTW, ixW, anyW, allW, addW, slLoW, slHiW, sliceW, augF]
  refine hs _ _ _ _ (.inr rfl) (by simp; omega) fun ds1 zs s pm1 => ?_
  obtain ⟨rs, rfl, pm2⟩ := perm_inv (f := D.str) (g := unStr) (fun _ => rfl) pm1
  have rl : rs.length = 6 := by rw [pm2.length_eq, yl]
  simp [wSs, wS, wT, wE, wEs, wZ, wO, wI, opW, derefs, deref, readW, one, two, lenW, eqW, truthy, toIntW, toListW, toTupW, onI, mtTy, frz, asgT, asgAll, putSl, wipeF, restF, isOwn, argSls, argSl, borrows, giveBack, srcDs, itemsOf, seqItems, srcBors, rfBor, frzSrc, isTmp, inW, isNW, itemsT, indexLW, indexTW, ixW, anyW, allW, addW, slLoW, slHiW, sliceW, augF]
  refine ⟨by rw [rngD_len]; exact le_line (by decide), chain_go (rs := rs) (fun i hi => ?_) ?_⟩
  · refine ⟨[oI ds1, .val (lS ws), .val (tS ys), .own false (lS rs), .none, .val (.int i)], rfl, fun K hK => ?_⟩
    have e1 := atI_str (rs := rs) (i := i) (by omega)
    have e2 := atI_str (rs := rs) (i := i + 1) (by omega)
    simp only [Int.natCast_add, Int.natCast_one] at e2
    simp [wSs, wS, wT, wE, wEs, wZ, wO, wI, opW, derefs, deref, readW, one, two, lenW, eqW, truthy, toIntW, toListW, toTupW, onI, mtTy, frz, asgT, asgAll, putSl, wipeF, restF, isOwn, argSls, argSl, borrows, giveBack, srcDs, itemsOf, seqItems, srcBors, rfBor, frzSrc, isTmp, inW, isNW, itemsT, indexLW, indexTW, ixW, anyW, allW, addW, slLoW, slHiW, sliceW, augF, e1, e2]
    exact ⟨le_line (by decide), le_line (by decide), hK⟩
  · simp [wSs, wS, wT, wE, wEs, wZ, wO, wI, opW, derefs, deref, readW, one, two, lenW, eqW, truthy, toIntW, toListW, toTupW, onI, mtTy, frz, asgT, asgAll, putSl, wipeF, restF, isOwn, argSls, argSl, borrows, giveBack, srcDs, itemsOf, seqItems, srcBors, rfBor, frzSrc, isTmp, inW, isNW, itemsT, indexLW, indexTW, ixW, anyW, allW, addW, slLoW, slHiW, sliceW, augF]
    refine hs _ _ _ _ (.inl rfl) (by simp [chainT]) fun ds2 zs s2 pm3 => ?_
    obtain ⟨ts, rfl, pm4⟩ := perm_inv (f := tieD) (g := unTie) (fun _ => unTie_tieD) pm3
    simp [wSs, wS, wT, wE, wEs, wZ, wO, wI, opW, derefs, deref, readW, one, two, lenW, eqW, truthy, toIntW, toListW, toTupW, onI, mtTy, frz, asgT, asgAll, putSl, wipeF, restF, isOwn, argSls, argSl, borrows, giveBack, srcDs, itemsOf, seqItems, srcBors, rfBor, frzSrc, isTmp, inW, isNW, itemsT, indexLW, indexTW, ixW, anyW, allW, addW, slLoW, slHiW, sliceW, augF]
    exact ⟨le_line (by decide), q _ ys rs ts _ sy yl (pm2.nodup_iff.mpr sy.2) rl pm4⟩
def bLfol (w l : Nat) : CSs := (.cons (.ret (.call w (.cons (.fz (.op .ix (.cons (.v 1) (.cons (.k (.int 1)) .nil)))) (.cons (.fz (.call l (.cons (.fz (.v 0)) (.cons (.fz (.op .ix (.cons (.v 1) (.cons (.k (.int 0)) .nil)))) .nil)))) .nil)))) .nil)
def LfolOk (C : WC) (i : Nat) : Prop := ∀ (ts : List Tie) (t : Tie) (Q : Rf → List Sl → Prop), TOk ts → t.1.length ≤ 100 → t.2.length ≤ 1000 → (∀ a b, Q (.val (.bl (fol ts t))) [a, b]) → C i [.val (tiesD ts), .val (tieD t)] Q
theorem lfol_ok {C : WC} {w l : Nat} (hw : WitOk C w) (hl : LcloOk C l) {ts : List Tie} {t : Tie} {Q : Rf → List Sl → Prop} (ht : TOk ts) (h1 : t.1.length ≤ 100) (h2 : t.2.length ≤ 1000) (q : ∀ a b, Q (.val (.bl (fol ts t))) [a, b]) :
    FnW C 2 2 (bLfol w l) [.val (tiesD ts), .val (tieD t)] Q := by
  refine ⟨rfl, ?_⟩
  have i0 : atI [tS t.1, tS t.2] 0 = some (tS t.1) := rfl
  have i1 : atI [tS t.1, tS t.2] 1 = some (tS t.2) := rfl
  unfold bLfol
  simp [wSs, wS, wT, wE, wEs, wZ, wO, wI, opW, derefs, deref, readW, one, two, lenW, eqW, truthy, toIntW, toListW, toTupW, onI, mtTy, frz, asgT, asgAll, putSl, wipeF, restF, isOwn, argSls, argSl, borrows, giveBack, srcDs, itemsOf, seqItems, srcBors, rfBor, frzSrc, isTmp, inW, isNW, itemsT, indexLW, indexTW, ixW, anyW, allW, addW, slLoW, slHiW, sliceW, augF, i0, i1]
  refine hl _ _ _ ht h1 fun ks a b k1 k2 k3 k4 => ?_
  simp [wSs, wS, wT, wE, wEs, wZ, wO, wI, opW, derefs, deref, readW, one, two, lenW, eqW, truthy, toIntW, toListW, toTupW, onI, mtTy, frz, asgT, asgAll, putSl, wipeF, restF, isOwn, argSls, argSl, borrows, giveBack, srcDs, itemsOf, seqItems, srcBors, rfBor, frzSrc, isTmp, inW, isNW, itemsT, indexLW, indexTW, ixW, anyW, allW, addW, slLoW, slHiW, sliceW, augF]
  refine hw _ _ _ _ (.inl rfl) (by omega) fun s1 s2 => ?_
  simp [wSs, wS, wT, wE, wEs, wZ, wO, wI, opW, derefs, deref, readW, one, two, lenW, eqW, truthy, toIntW, toListW, toTupW, onI, mtTy, frz, asgT, asgAll, putSl, wipeF, restF, isOwn, argSls, argSl, borrows, giveBack, srcDs, itemsOf, seqItems, srcBors, rfBor, frzSrc, isTmp, inW, isNW, itemsT, indexLW, indexTW, ixW, anyW, allW, addW, slLoW, slHiW, sliceW, augF]
  have e : decide (∀ x ∈ t.2, x ∈ ks) = fol ts t := by
    unfold fol
    rw [Bool.eq_iff_iff]
    simp [k4]
  rw [e]
  exact q _ _
/-! ### the comparison -/
def bSame (k : Nat) : CSs := (.cons (.ite (.op (.isi ["tuple", "list"] false) (.cons (.v 1) .nil)) (.cons (.ite (.or (.op .ne (.cons (.op (.isi ["tuple"] true) (.cons (.v 0) .nil)) (.cons (.op (.isi ["tuple"] true) (.cons (.v 1) .nil)) .nil))) (.op .ne (.cons (.op (.isi ["list"] true) (.cons (.v 0) .nil)) (.cons (.op (.isi ["list"] true) (.cons (.v 1) .nil)) .nil)))) (.cons (.ret (.k (.bl false))) .nil) .nil) (.cons (.ite (.op .ne (.cons (.op .len (.cons (.v 0) .nil)) (.cons (.op .len (.cons (.v 1) .nil)) .nil))) (.cons (.ret (.k (.bl false))) .nil) .nil) (.cons (.ret (.op .notin (.cons (.k (.bl false)) (.cons (.lc [2] (.n 2) (.rng1 (.op .len (.cons (.v 1) .nil))) .none (.call k (.cons (.fz (.op .ix (.cons (.v 0) (.cons (.v 2) .nil)))) (.cons (.fz (.op .ix (.cons (.v 1) (.cons (.v 2) .nil)))) .nil)))) .nil)))) .nil))) .nil) (.cons (.ite (.or (.op .ne (.cons (.op (.isi ["bool"] true) (.cons (.v 0) .nil)) (.cons (.op (.isi ["bool"] true) (.cons (.v 1) .nil)) .nil))) (.op .ne (.cons (.op (.isi ["int"] true) (.cons (.v 0) .nil)) (.cons (.op (.isi ["int"] true) (.cons (.v 1) .nil)) .nil)))) (.cons (.ret (.k (.bl false))) .nil) .nil) (.cons (.ite (.or (.op .ne (.cons (.op (.isi ["str"] true) (.cons (.v 0) .nil)) (.cons (.op (.isi ["str"] true) (.cons (.v 1) .nil)) .nil))) (.op .ne (.cons (.op .isN (.cons (.v 0) .nil)) (.cons (.op .isN (.cons (.v 1) .nil)) .nil)))) (.cons (.ret (.k (.bl false))) .nil) .nil) (.cons (.ret (.op .eq (.cons (.v 0) (.cons (.v 1) .nil)))) .nil))))
/-- the comparison of a value with itself is true -/
def SameOk (C : WC) (i : Nat) (d : D) : Prop := ∀ (Q : Rf → List Sl → Prop), (∀ a b, Q (.val (.bl true)) [a, b]) → C i [.val d, .val d] Q
theorem same_str {C : WC} {k : Nat} {x : Str} {Q : Rf → List Sl → Prop} (q : ∀ a b, Q (.val (.bl true)) [a, b]) : FnW C 2 3 (bSame k) [.val (.str x), .val (.str x)] Q := by
  refine ⟨rfl, ?_⟩
  unfold bSame
  simp [wSs, wS, wT, wE, wEs, wZ, wO, wI, opW, derefs, deref, readW, one, two, lenW, eqW, truthy, toIntW, toListW, toTupW, onI, mtTy, frz, asgT, asgAll, putSl, wipeF, restF, isOwn, argSls, argSl, borrows, giveBack, srcDs, itemsOf, seqItems, srcBors, rfBor, frzSrc, isTmp, inW, isNW, itemsT, indexLW, indexTW, ixW, anyW, allW, addW, slLoW, slHiW, sliceW, augF, isiD, tyOf]
  exact q _ _
theorem same_bl {C : WC} {k : Nat} {x : Bool} {Q : Rf → List Sl → Prop} (q : ∀ a b, Q (.val (.bl true)) [a, b]) : FnW C 2 3 (bSame k) [.val (.bl x), .val (.bl x)] Q := by
  refine ⟨rfl, ?_⟩
  unfold bSame
  simp [wSs, wS, wT, wE, wEs, wZ, wO, wI, opW, derefs, deref, readW, one, two, lenW, eqW, truthy, toIntW, toListW, toTupW, onI, mtTy, frz, asgT, asgAll, putSl, wipeF, restF, isOwn, argSls, argSl, borrows, giveBack, srcDs, itemsOf, seqItems, srcBors, rfBor, frzSrc, isTmp, inW, isNW, itemsT, indexLW, indexTW, ixW, anyW, allW, addW, slLoW, slHiW, sliceW, augF, isiD, tyOf]
  exact q _ _
theorem same_tup {C : WC} {k : Nat} {xs : List D} {Q : Rf → List Sl → Prop} (hx : ∀ x ∈ xs, SameOk C k x) (hl : xs.length ≤ 1000) (q : ∀ a b, Q (.val (.bl true)) [a, b]) : FnW C 2 3 (bSame k) [.val (.tup xs), .val (.tup xs)] Q := by
  refine ⟨rfl, ?_⟩
  unfold bSame
  simp [wSs, wS, wT, wE, wEs, wZ, wO, wI, opW, derefs, deref, readW, one, two, lenW, eqW, truthy, toIntW, toListW, toTupW, onI, mtTy, frz, asgT, asgAll, putSl, wipeF, restF, isOwn, argSls, argSl, borrows, giveBack, srcDs, itemsOf, seqItems, srcBors, rfBor, frzSrc, isTmp, inW, isNW, itemsT, indexLW, indexTW, ixW, anyW, allW, addW, slLoW, slHiW, sliceW, augF, isiD, tyOf]
  refine ⟨by omega, by rw [rngD_len]; exact le_line hl, lcGo_pure (fun _ => some (.bl true)) rfl (fun x h => ?_) ?_⟩
  · obtain ⟨i, rfl, hi⟩ := rngD_get h
    refine ⟨[.val (.tup xs), .val (.tup xs), .val (.int i)], rfl, fun K hK => ?_⟩
    have e : atI xs (i : Nat) = some xs[i] := atI_nat (List.getElem?_eq_getElem hi)
    simp [wSs, wS, wT, wE, wEs, wZ, wO, wI, opW, derefs, deref, readW, one, two, lenW, eqW, truthy, toIntW, toListW, toTupW, onI, mtTy, frz, asgT, asgAll, putSl, wipeF, restF, isOwn, argSls, argSl, borrows, giveBack, srcDs, itemsOf, seqItems, srcBors, rfBor, frzSrc, isTmp, inW, isNW, itemsT, indexLW, indexTW, ixW, anyW, allW, addW, slLoW, slHiW, sliceW, augF, e]
    refine hx _ (List.getElem_mem hi) _ fun a b => ?_
    simpa [wSs, wS, wT, wE, wEs, wZ, wO, wI, opW, derefs, deref, readW, one, two, lenW, eqW, truthy, toIntW, toListW, toTupW, onI, mtTy, frz, asgT, asgAll, putSl, wipeF, restF, isOwn, argSls, argSl, borrows, giveBack, srcDs, itemsOf, seqItems, srcBors, rfBor, frzSrc, isTmp, inW, isNW, itemsT, indexLW, indexTW, ixW, anyW, allW, addW, slLoW, slHiW, sliceW, augF] using hK
  · have : (rngD 0 xs.length).filterMap (fun _ => some (D.bl true)) = ((rngD 0 xs.length).map fun _ => true).map D.bl := by
      rw [List.map_map, ← List.filterMap_eq_map]
      rfl
    rw [List.nil_append, this]
    refine ⟨pl30_lb, ?_⟩
    rw [any_bl]
    have e : decide (false ∈ (rngD 0 xs.length).map fun _ => true) = false := by simp
    rw [e]
    exact q _ _
end QL
set_option maxHeartbeats 1500000
/-! ML: the asked ties -/
namespace QL
open PySem L2
def bAsP (f p : Nat) : CSs := (.cons (.ex (.mt .append (.v 5) (.cons (.fz (.tup (.cons (.v 3) (.cons (.op .toTup (.cons (.op .sorted (.cons (.op .add (.cons (.op .toList (.cons (.call f (.cons (.v 0) (.cons (.fz (.v 4)) (.cons (.fz (.k (.int 2))) .nil)))) .nil)) (.cons (.lst (.cons (.call p (.cons (.v 0) (.cons (.fz (.v 6)) .nil))) .nil)) .nil))) .nil)) .nil)) .nil)))) .nil))) .nil)
def bAsI (f p : Nat) : CS := (.ite (.op .gt (.cons (.op .len (.cons (.v 6) .nil)) (.cons (.k (.int 0)) .nil))) (bAsP f p) .nil)
def bAsB (f a : Nat) : CSs := (.cons (.ex (.mt .append (.v 5) (.cons (.fz (.tup (.cons (.call a (.cons (.v 0) (.cons (.fz (.v 1)) .nil))) (.cons (.call f (.cons (.v 0) (.cons (.fz (.v 1)) (.cons (.fz (.k (.int 2))) .nil)))) .nil)))) .nil))) .nil)
def bAsF (f a : Nat) : CS := (.for (.n 7) (.rng1 (.k (.int 2))) (bAsB f a))
def bAs6 (f a : Nat) : CSs := (.cons (bAsF f a) (.cons (.ret (.v 5)) .nil))
def bAs5 (f p a : Nat) : CSs := (.cons (bAsI f p) (bAs6 f a))
def bAs4 (f p a : Nat) : CSs := (.cons (.setLc 6 (.lc [8] (.n 8) (.seq (.v 1)) (.some (.op .notin (.cons (.v 8) (.cons (.v 4) .nil)))) (.v 8))) (bAs5 f p a))
def bAs3 (f p a : Nat) : CSs := (.cons (.set (.n 5) (.lst (.cons (.tup (.cons (.v 3) (.cons (.call f (.cons (.v 0) (.cons (.fz (.v 4)) (.cons (.fz (.k (.int 3))) .nil)))) .nil))) .nil))) (bAs4 f p a))
def bAsk (f l p a : Nat) : CSs := (.cons (.set (.n 3) (.call f (.cons (.v 0) (.cons (.fz (.v 1)) (.cons (.fz (.k (.int 2))) .nil))))) (.cons (.set (.n 4) (.call l (.cons (.fz (.v 2)) (.cons (.fz (.v 3)) .nil)))) (bAs3 f p a)))
def ATie (t : Tie) : Prop := t.1.length ≤ 100 ∧ t.2.length ≤ 100
def AskOk (C : WC) (i : Nat) : Prop := ∀ (ds : List Int) (cs : List Str) (ts : List Tie) (Q : Rf → List Sl → Prop), cs.length ≤ 8 → TOk ts → (∀ (ds : List Int) (us : List Tie) s t, (∀ u ∈ us, ATie u) → Q (.tmp (.lst (us.map tieD))) [oI ds, s, t]) → C i [oI ds, .val (tS cs), .val (tiesD ts)] Q
theorem ask_ok {C : WC} {f l p a : Nat} (hf : FewOk C f) (hl : LcloOk C l) (hp : PickOk C p) (ha : AnyOk C a) {ds : List Int} {cs : List Str} {ts : List Tie} {Q : Rf → List Sl → Prop} (hc : cs.length ≤ 8) (ht : TOk ts)
    (q : ∀ (ds : List Int) (us : List Tie) s t, (∀ u ∈ us, ATie u) → Q (.tmp (.lst (us.map tieD))) [oI ds, s, t]) : FnW C 3 9 (bAsk f l p a) [oI ds, .val (tS cs), .val (tiesD ts)] Q := by
  refine ⟨rfl, ?_⟩
  have z2 : (2 : Nat) ≤ sizeLine := le_line (by decide)
  have z1 : (1 : Nat) ≤ sizeLine := le_line (by decide)
  have loop : ∀ (ds : List Int) (s3 s4 s6 : Sl) (us : List Tie), us.length ≤ 10 → (∀ u ∈ us, ATie u) → wSs C (bAs6 f a) [oI ds, .val (tS cs), .val (tiesD ts), s3, s4, .own false (.lst (us.map tieD)), s6, .none, .none] { nx := fun fr => Q (.val .non) (outF 3 fr), rt := fun r fr => Q r (outF 3 fr) } := fun ds s3 s4 s6 us ul hu => by
    unfold bAs6
    rw [wSs]
    unfold bAsF
    simp [wSs, wS, wT, wE, wEs, wZ, wO, wI, opW, derefs, deref, readW, one, two, lenW, eqW, truthy, toIntW, toListW, toTupW, onI, mtTy, frz, wipeF, restF, isOwn, argSls, argSl, borrows, giveBack, srcDs, itemsOf, seqItems, srcBors, rfBor, frzSrc, isTmp, inW, isNW, itemsT, indexLW, indexTW, ixW, anyW, allW, addW, slLoW, slHiW, sliceW, augF]
    refine forGo_inv (I := fun zs fr => ∃ (ds : List Int) (us : List Tie) (s7 : Sl), fr = [oI ds, .val (tS cs), .val (tiesD ts), s3, s4, .own false (.lst (us.map tieD)), s6, s7, .none] ∧ Free s7 ∧ zs.length + us.length ≤ 12 ∧ ∀ u ∈ us, ATie u) ?_ ?_ ⟨ds, us, .none, rfl, free_n, by rw [rngD_len]; omega, hu⟩
    · rintro x r fr ⟨ds, us, s7, rfl, h7, ul, hu⟩
      simp only [List.length_cons] at ul
      refine ⟨_, asg_free rfl h7, fun nx hnx => ?_⟩
      unfold bAsB
      simp [wSs, wS, wT, wE, wEs, wZ, wO, wI, opW, derefs, deref, readW, one, two, lenW, eqW, truthy, toIntW, toListW, toTupW, onI, mtTy, frz, wipeF, restF, isOwn, argSls, argSl, borrows, giveBack, srcDs, itemsOf, seqItems, srcBors, rfBor, frzSrc, isTmp, inW, isNW, itemsT, indexLW, indexTW, ixW, anyW, allW, addW, slLoW, slHiW, sliceW, augF]
      refine ha _ _ _ (by omega) fun ds2 y1 s1 b1 => ?_
      simp [wSs, wS, wT, wE, wEs, wZ, wO, wI, opW, derefs, deref, readW, one, two, lenW, eqW, truthy, toIntW, toListW, toTupW, onI, mtTy, frz, wipeF, restF, isOwn, argSls, argSl, borrows, giveBack, srcDs, itemsOf, seqItems, srcBors, rfBor, frzSrc, isTmp, inW, isNW, itemsT, indexLW, indexTW, ixW, anyW, allW, addW, slLoW, slHiW, sliceW, augF]
      refine hf _ _ _ _ (by decide) (by decide) fun ds3 y2 s2 s2' b2 c2 d2 => ?_
      simp [wSs, wS, wT, wE, wEs, wZ, wO, wI, opW, derefs, deref, readW, one, two, lenW, eqW, truthy, toIntW, toListW, toTupW, onI, mtTy, frz, wipeF, restF, isOwn, argSls, argSl, borrows, giveBack, srcDs, itemsOf, seqItems, srcBors, rfBor, frzSrc, isTmp, inW, isNW, itemsT, indexLW, indexTW, ixW, anyW, allW, addW, slLoW, slHiW, sliceW, augF, z2]
      refine ⟨small1000 (by omega), ?_⟩
      refine hnx _ ⟨ds3, us ++ [(y1, y2)], .val x, by simp, free_v, by rw [List.length_append]; simp; omega, fun u hu' => ?_⟩
      rcases List.mem_append.mp hu' with z | z
      · exact hu u z
      · cases List.mem_singleton.mp z
        exact ⟨show y1.length ≤ 100 by have := b1.length_le; omega, show y2.length ≤ 100 by omega⟩
    · rintro fr ⟨ds, us, s7, rfl, h7, ul, hu⟩
      simp [wSs, wS, wT, wE, wEs, wZ, wO, wI, opW, derefs, deref, readW, one, two, lenW, eqW, truthy, toIntW, toListW, toTupW, onI, mtTy, frz, asgT, asgAll, putSl, wipeF, restF, isOwn, argSls, argSl, borrows, giveBack, srcDs, itemsOf, seqItems, srcBors, rfBor, frzSrc, isTmp, inW, isNW, itemsT, indexLW, indexTW, ixW, anyW, allW, addW, slLoW, slHiW, sliceW, augF]
      exact q _ us _ _ hu
  have mid : ∀ (ds : List Int) (l0 ks : List Str) (os : List Str) (us : List Tie), us.length ≤ 5 → (∀ u ∈ us, ATie u) → l0.length ≤ 100 → os.length ≤ 8 → wSs C (bAs5 f p a) [oI ds, .val (tS cs), .val (tiesD ts), .val (tS l0), .val (tS ks), .own false (.lst (us.map tieD)), .own false (lS os), .none, .none] { nx := fun fr => Q (.val .non) (outF 3 fr), rt := fun r fr => Q r (outF 3 fr) } := fun ds l0 ks os us ul hu ll ol => by
    unfold bAs5
    rw [wSs]
    unfold bAsI
    simp only [wS, wT, wE, wEs, List.getElem?_cons_zero, List.getElem?_cons_succ, opW, derefs, deref, readW, one, two, lenW, gtW, truthy]
    split
    · rename_i e
      have e0 : 0 < os.length := by simpa using e
      unfold bAsP
      simp [wSs, wS, wT, wE, wEs, wZ, wO, wI, opW, derefs, deref, readW, one, two, lenW, eqW, truthy, toIntW, toListW, toTupW, onI, mtTy, frz, wipeF, restF, isOwn, argSls, argSl, borrows, giveBack, srcDs, itemsOf, seqItems, srcBors, rfBor, frzSrc, isTmp, inW, isNW, itemsT, indexLW, indexTW, ixW, anyW, allW, addW, slLoW, slHiW, sliceW, augF]
      refine hf _ _ _ _ (by decide) (by decide) fun ds2 y1 s1 s1' b1 c1 d1 => ?_
      simp [wSs, wS, wT, wE, wEs, wZ, wO, wI, opW, derefs, deref, readW, one, two, lenW, eqW, truthy, toIntW, toListW, toTupW, onI, mtTy, frz, wipeF, restF, isOwn, argSls, argSl, borrows, giveBack, srcDs, itemsOf, seqItems, srcBors, rfBor, frzSrc, isTmp, inW, isNW, itemsT, indexLW, indexTW, ixW, anyW, allW, addW, slLoW, slHiW, sliceW, augF]
      refine hp _ _ _ (os.map .str) _ (.inr rfl) (fun z => by rw [List.map_eq_nil_iff] at z; rw [z] at e0; cases e0) fun ds3 x s2 hx => ?_
      obtain ⟨y, hy, rfl⟩ := (List.mem_map.mp hx)
      simp [wSs, wS, wT, wE, wEs, wZ, wO, wI, opW, derefs, deref, readW, one, two, lenW, eqW, truthy, toIntW, toListW, toTupW, onI, mtTy, frz, wipeF, restF, isOwn, argSls, argSl, borrows, giveBack, srcDs, itemsOf, seqItems, srcBors, rfBor, frzSrc, isTmp, inW, isNW, itemsT, indexLW, indexTW, ixW, anyW, allW, addW, slLoW, slHiW, sliceW, augF, z1, srtW, sortedW]
      refine ⟨le_line (by omega), .inr ⟨y1 ++ [y], by rw [← strsD_map]; simp, by rw [List.length_append]; simp; omega, fun ys pm so => ?_⟩⟩
      have yl := pm.length_eq
      rw [List.length_append] at yl
      simp at yl
      refine ⟨z2, small1000 (by omega), ?_⟩
      have := loop ds3 (.val (tS l0)) (.val (tS ks)) (.val (lS os)) (us ++ [(l0, ys)]) (by rw [List.length_append]; simp; omega) (fun u hu' => by
        rcases List.mem_append.mp hu' with z | z
        · exact hu u z
        · cases List.mem_singleton.mp z
          exact ⟨ll, show ys.length ≤ 100 by omega⟩)
      simpa using this
    · exact loop ds _ _ _ us (by omega) hu
  unfold bAsk
  simp [wSs, wS, wT, wE, wEs, wZ, wO, wI, opW, derefs, deref, readW, one, two, lenW, eqW, truthy, toIntW, toListW, toTupW, onI, mtTy, frz, asgT, asgAll, putSl, wipeF, restF, isOwn, argSls, argSl, borrows, giveBack, srcDs, itemsOf, seqItems, srcBors, rfBor, frzSrc, isTmp, inW, isNW, itemsT, indexLW, indexTW, ixW, anyW, allW, addW, slLoW, slHiW, sliceW, augF]
  refine hf _ _ _ _ (by decide) (by decide) fun ds1 l0 s1 s1' b1 c1 d1 => ?_
  simp [wSs, wS, wT, wE, wEs, wZ, wO, wI, opW, derefs, deref, readW, one, two, lenW, eqW, truthy, toIntW, toListW, toTupW, onI, mtTy, frz, asgT, asgAll, putSl, wipeF, restF, isOwn, argSls, argSl, borrows, giveBack, srcDs, itemsOf, seqItems, srcBors, rfBor, frzSrc, isTmp, inW, isNW, itemsT, indexLW, indexTW, ixW, anyW, allW, addW, slLoW, slHiW, sliceW, augF]
  refine hl _ _ _ ht (by omega) fun ks s2 s3 k1 k2 k3 k4 => ?_
  simp [wSs, wS, wT, wE, wEs, wZ, wO, wI, opW, derefs, deref, readW, one, two, lenW, eqW, truthy, toIntW, toListW, toTupW, onI, mtTy, frz, asgT, asgAll, putSl, wipeF, restF, isOwn, argSls, argSl, borrows, giveBack, srcDs, itemsOf, seqItems, srcBors, rfBor, frzSrc, isTmp, inW, isNW, itemsT, indexLW, indexTW, ixW, anyW, allW, addW, slLoW, slHiW, sliceW, augF]
  unfold bAs3
  simp [wSs, wS, wT, wE, wEs, wZ, wO, wI, opW, derefs, deref, readW, one, two, lenW, eqW, truthy, toIntW, toListW, toTupW, onI, mtTy, frz, asgT, asgAll, putSl, wipeF, restF, isOwn, argSls, argSl, borrows, giveBack, srcDs, itemsOf, seqItems, srcBors, rfBor, frzSrc, isTmp, inW, isNW, itemsT, indexLW, indexTW, ixW, anyW, allW, addW, slLoW, slHiW, sliceW, augF]
  refine hf _ _ _ _ (by decide) (by decide) fun ds2 y2 s4 s4' b2 c2 d2 => ?_
  simp [wSs, wS, wT, wE, wEs, wZ, wO, wI, opW, derefs, deref, readW, one, two, lenW, eqW, truthy, toIntW, toListW, toTupW, onI, mtTy, frz, asgT, asgAll, putSl, wipeF, restF, isOwn, argSls, argSl, borrows, giveBack, srcDs, itemsOf, seqItems, srcBors, rfBor, frzSrc, isTmp, inW, isNW, itemsT, indexLW, indexTW, ixW, anyW, allW, addW, slLoW, slHiW, sliceW, augF, z1, z2]
  unfold bAs4
  simp [wSs, wS, wT, wE, wEs, wZ, wO, wI, opW, derefs, deref, readW, one, two, lenW, eqW, truthy, toIntW, toListW, toTupW, onI, mtTy, frz, asgT, asgAll, putSl, wipeF, restF, isOwn, argSls, argSl, borrows, giveBack, srcDs, itemsOf, seqItems, srcBors, rfBor, frzSrc, isTmp, inW, isNW, itemsT, indexLW, indexTW, ixW, anyW, allW, addW, slLoW, slHiW, sliceW, augF]
  refine ⟨le_line (by omega), lcGo_pure (fun d => match d with | .str x => if (!decide (x ∈ ks)) = true then some (.str x) else none | _ => none) rfl (fun x hx => ?_) ?_⟩
  · obtain ⟨y, hy, rfl⟩ := List.mem_map.mp hx
    refine ⟨[oI ds2, .val (tS cs), .val (tiesD ts), .val (tS l0), .val (tS ks), .own false (.lst [tieD (l0, y2)]), .none, .none, .val (.str y)], rfl, fun K hK => ?_⟩
    by_cases hy : y ∈ ks
    · simp [wSs, wS, wT, wE, wEs, wZ, wO, wI, opW, derefs, deref, readW, one, two, lenW, eqW, truthy, toIntW, toListW, toTupW, onI, mtTy, frz, asgT, asgAll, putSl, wipeF, restF, isOwn, argSls, argSl, borrows, giveBack, srcDs, itemsOf, seqItems, srcBors, rfBor, frzSrc, isTmp, inW, isNW, itemsT, indexLW, indexTW, ixW, anyW, allW, addW, slLoW, slHiW, sliceW, augF]
      rw [if_neg fun h => h y hy rfl]
      simpa [hy] using hK
    · simp [wSs, wS, wT, wE, wEs, wZ, wO, wI, opW, derefs, deref, readW, one, two, lenW, eqW, truthy, toIntW, toListW, toTupW, onI, mtTy, frz, asgT, asgAll, putSl, wipeF, restF, isOwn, argSls, argSl, borrows, giveBack, srcDs, itemsOf, seqItems, srcBors, rfBor, frzSrc, isTmp, inW, isNW, itemsT, indexLW, indexTW, ixW, anyW, allW, addW, slLoW, slHiW, sliceW, augF]
      rw [if_pos fun (a : Str) ha (e : a = y) => hy (e ▸ ha)]
      simpa [hy] using hK
  · rw [List.nil_append, filterMap_filter (g := fun x => !decide (x ∈ ks)) _ fun x => rfl]
    simp [wSs, wS, wT, wE, wEs, wZ, wO, wI, opW, derefs, deref, readW, one, two, lenW, eqW, truthy, toIntW, toListW, toTupW, onI, mtTy, frz, asgT, asgAll, putSl, wipeF, restF, isOwn, argSls, argSl, borrows, giveBack, srcDs, itemsOf, seqItems, srcBors, rfBor, frzSrc, isTmp, inW, isNW, itemsT, indexLW, indexTW, ixW, anyW, allW, addW, slLoW, slHiW, sliceW, augF]
    have := mid ds2 l0 ks (cs.filter fun x => !decide (x ∈ ks)) [(l0, y2)] (by simp) (fun u hu => by
      cases List.mem_singleton.mp hu
      exact ⟨show l0.length ≤ 100 by omega, show y2.length ≤ 100 by omega⟩) (by omega) (Nat.le_trans (List.length_filter_le ..) hc)
    simpa using this
end QL
/-! NA: the weakest preconditions by steps -/
namespace QL
open PySem L2
section
set_option autoImplicit true
abbrev RQ := Rf → Fr → Prop
abbrev RsQ := List Rf → Fr → Prop
/-! continuations -/
def kV (Q : RQ) (i : Nat) (fr : Fr) : Option Sl → Prop
  | some (.val d) => Q (.val d) fr
  | some (.own _ _) => Q (.bor i) fr
  | _ => False
def kFz (Q : RQ) : RQ := fun r fr' => match frz fr' r with
  | some (d, fr2) => Q (.val d) fr2
  | none => False
def kFzB (Q : RQ) (i : Nat) (fr : Fr) : Option Sl → Prop
  | some (.own false d) => Q (.val d) (fr.set i (.val d))
  | some (.val d) => Q (.val d) fr
  | _ => False
def kPush (x : Rf) (Q : RsQ) : RsQ := fun xs fr => Q (x :: xs) fr
def kCons (C : WC) (r : CXs) (Q : RsQ) : RQ := fun x fr => wEs C r fr (kPush x Q)
def kOp (o : Op) (Q : RQ) : RsQ := fun rs fr => opW o rs fr Q
def kMt (C : WC) (o : Op) (es : CXs) (Q : RQ) : RQ := fun r fr => mtTy o (deref fr r) ∧ wEs C es fr (kPush r (kOp o Q))
def kRd (Q : RQ) (fr : Fr) : RK := fun r => Q r fr
def kS3i (Q : RQ) (i : Int) (fr : Fr) : Option D → Option D → Prop
  | some (.int j), some x => sliceW x (some i) (some j) (kRd Q fr)
  | _, _ => False
def kS3 (Q : RQ) (ra : Rf) (i : Int) : RQ := fun rh fr => kS3i Q i fr (deref fr rh) (deref fr ra)
def kS2i (C : WC) (hi : CX) (Q : RQ) (ra : Rf) (fr : Fr) : Option D → Prop
  | some (.int i) => wE C hi fr (kS3 Q ra i)
  | _ => False
def kS2 (C : WC) (hi : CX) (Q : RQ) (ra : Rf) : RQ := fun rl fr => kS2i C hi Q ra fr (deref fr rl)
def kS1 (C : WC) (lo hi : CX) (Q : RQ) : RQ := fun ra fr => wE C lo fr (kS2 C hi Q ra)
def kAndB (C : WC) (b : CX) (Q : RQ) (fr : Fr) : Option D → Prop
  | some (.bl c) => if c = true then wE C b fr Q else Q (.val (.bl false)) fr
  | _ => False
def kAnd (C : WC) (b : CX) (Q : RQ) : RQ := fun r fr => kAndB C b Q fr (deref fr r)
def kOrB (C : WC) (b : CX) (Q : RQ) (fr : Fr) : Option D → Prop
  | some (.bl c) => if c = true then Q (.val (.bl true)) fr else wE C b fr Q
  | _ => False
def kOr (C : WC) (b : CX) (Q : RQ) : RQ := fun r fr => kOrB C b Q fr (deref fr r)
def kNotB (Q : RQ) (fr : Fr) : Option D → Prop
  | some (.bl c) => Q (.val (.bl (!c))) fr
  | _ => False
def kNot (Q : RQ) : RQ := fun r fr => kNotB Q fr (deref fr r)
def kIfe (C : WC) (a b : CX) (Q : RQ) : Bool → Fr → Prop := fun c fr => if c = true then wE C a fr Q else wE C b fr Q
def kTup (Q : RQ) : List D → Fr → Prop := fun ds fr => ds.length ≤ sizeLine ∧ Q (.val (.tup ds)) fr
def kLst (Q : RQ) : List D → Fr → Prop := fun ds fr => ds.length ≤ sizeLine ∧ Q (.tmp (.lst ds)) fr
def kZp (d : D) (Q : List D → Fr → Prop) : List D → Fr → Prop := fun ds fr => Q (d :: ds) fr
def kZ (C : WC) (r : CXs) (Q : List D → Fr → Prop) : RQ := fun x fr => match frz fr x with
  | some (d, fr2) => wZ C r fr2 (kZp d Q)
  | none => False
def kZB (C : WC) (r : CXs) (Q : List D → Fr → Prop) (i : Nat) (fr : Fr) : Option Sl → Prop
  | some (.own false d) => wZ C r (fr.set i (.val d)) (kZp d Q)
  | some (.val d) => wZ C r fr (kZp d Q)
  | _ => False
def kGb (Q : RQ) (r : Rf) : Option Fr → Prop
  | some fr2 => Q r fr2
  | none => False
def kOut (Q : RQ) (rs : List Rf) (fr : Fr) : Rf → List Sl → Prop := fun r outs => kGb Q r (giveBack fr rs outs)
def kCallS (C : WC) (f : Nat) (Q : RQ) (rs : List Rf) (fr : Fr) : Option (List Sl) → Prop
  | some ss => (borrows rs).Nodup ∧ C f ss (kOut Q rs fr)
  | none => False
def kCall (C : WC) (f : Nat) (Q : RQ) : RsQ := fun rs fr => kCallS C f Q rs fr (argSls fr rs)
def kSlc : Option Sl → Option (List Sl) → Option (List Sl)
  | some s, some ss => some (s :: ss)
  | _, _ => none
def kAs : Option Sl → Option Sl
  | some (.own _ d) => some (.own true d)
  | some (.val d) => some (.val d)
  | _ => none
def kGv (rs : List Rf) (outs : List Sl) (i : Nat) (d : D) (fr : Fr) : Option Sl → Option Fr
  | some (.own b _) => giveBack (fr.set i (.own b d)) rs outs
  | _ => none
def kGw (rs : List Rf) (outs : List Sl) (fr : Fr) : Option Sl → Option Fr
  | some (.val _) => giveBack fr rs outs
  | _ => none
def kTe (K : Option D → Fr → Prop) : RQ := fun r fr => match frz fr r with
  | some (d, fr2) => K (some d) fr2
  | none => False
def kTeB (K : Option D → Fr → Prop) (i : Nat) (fr : Fr) : Option Sl → Prop
  | some (.own false d) => K (some d) (fr.set i (.val d))
  | some (.val d) => K (some d) fr
  | _ => False
def kTc (C : WC) (e : CX) (K : Option D → Fr → Prop) : Bool → Fr → Prop := fun b fr => if b = true then wE C e fr (kTe K) else K none fr
def kTu (C : WC) (c : CO) (e : CX) (K : Option D → Fr → Prop) : Option Fr → Prop
  | some fr => wO C c fr (kTc C e K)
  | none => False
def kLcE (Q : RQ) (fr1 : Fr) (os : List Nat) : List D → Fr → Prop := fun acc fr' => Q (.tmp (.lst acc)) (restF fr1 fr' os)
def ownB (fr : Fr) (src : Src) (os : List Nat) : Bool := os.all fun i => !isOwn fr i && decide (i < fr.length) && !(srcBors src).contains i
def kLcI (C : WC) (os : List Nat) (t : CT) (c : CO) (e : CX) (Q : RQ) (src : Src) (fr1 : Fr) (sv : List D) : Option (List D) → Prop
  | some xs => ownB fr1 src os = true ∧ xs.length ≤ sizeLine ∧ lcGo src sv os (lcT C t c e) xs [] (wipeF fr1 os) (kLcE Q fr1 os)
  | none => False
def kLcD (C : WC) (os : List Nat) (t : CT) (c : CO) (e : CX) (Q : RQ) (src : Src) (fr1 : Fr) : Option (List D) → Prop
  | some sv => kLcI C os t c e Q src fr1 sv (itemsT t src sv)
  | none => False
def kLc (C : WC) (os : List Nat) (t : CT) (c : CO) (e : CX) (Q : RQ) : Src → Fr → Prop := fun src fr1 => kLcD C os t c e Q src fr1 (srcDs fr1 src)
def kSscE (Q : RQ) (fr1 : Fr) (os : List Nat) : List D → Fr → Prop := fun acc fr' => ∃ ss, strsD acc = some ss ∧ onceW ss fun r => Q r (restF fr1 fr' os)
def kSscI (C : WC) (os : List Nat) (t : CT) (c : CO) (e : CX) (Q : RQ) (src : Src) (fr1 : Fr) (sv : List D) : Option (List D) → Prop
  | some xs => ownB fr1 src os = true ∧ xs.length ≤ 1000 ∧ lcGo src sv os (sscT C t c e) xs [] (wipeF fr1 os) (kSscE Q fr1 os)
  | none => False
def kSscD (C : WC) (os : List Nat) (t : CT) (c : CO) (e : CX) (Q : RQ) (src : Src) (fr1 : Fr) : Option (List D) → Prop
  | some sv => kSscI C os t c e Q src fr1 sv (itemsT t src sv)
  | none => False
def kSsc (C : WC) (os : List Nat) (t : CT) (c : CO) (e : CX) (Q : RQ) : Src → Fr → Prop := fun src fr1 => kSscD C os t c e Q src fr1 (srcDs fr1 src)
def kTse (K : Option D → Fr → Prop) : RQ := fun r fr => match frz fr r with
  | some (.str k, fr2) => K (some (.str k)) fr2
  | _ => False
def kTsc (C : WC) (e : CX) (K : Option D → Fr → Prop) : Bool → Fr → Prop := fun b fr => if b = true then wE C e fr (kTse K) else K none fr
def kTsu (C : WC) (c : CO) (e : CX) (K : Option D → Fr → Prop) : Option Fr → Prop
  | some fr => wO C c fr (kTsc C e K)
  | none => False
def kDer (o : Op) (Q : RQ) (fr : Fr) : Option (List D) → Prop
  | some ds => readW o ds (kRd Q fr)
  | none => False
def kDc : Option D → Option (List D) → Option (List D)
  | some d, some e => some (d :: e)
  | _, _ => none
def kDb : Option Sl → Option D
  | some (.own _ d) => some d
  | some (.val d) => some d
  | _ => none
def kPopL (Q : RQ) (i : Nat) (fr : Fr) (b : Bool) (xs : List D) : Option D → Prop
  | some d => Q (.val d) (fr.set i (.own b (.lst xs.dropLast)))
  | none => False
def kPop (Q : RQ) (i : Nat) (fr : Fr) : Option Sl → Prop
  | some (.own b (.lst xs)) => kPopL Q i fr b xs xs.getLast?
  | _ => False
def kApp (Q : RQ) (i : Nat) (d : D) (fr : Fr) : Option Sl → Prop
  | some (.own b (.lst xs)) => xs.length < sizeLine ∧ Q (.val .non) (fr.set i (.own b (.lst (xs ++ [d]))))
  | _ => False
def kIns (Q : RQ) (i : Nat) (j : Int) (d : D) (fr : Fr) : Option Sl → Prop
  | some (.own b (.lst xs)) => 0 ≤ j ∧ j ≤ xs.length ∧ xs.length < sizeLine ∧ Q (.val .non) (fr.set i (.own b (.lst (xs.take j.toNat ++ d :: xs.drop j.toNat))))
  | _ => False
def kRev (Q : RQ) (i : Nat) (fr : Fr) : Option Sl → Prop
  | some (.own b (.lst xs)) => Q (.val .non) (fr.set i (.own b (.lst xs.reverse)))
  | _ => False
def kTruB (Q : Bool → Fr → Prop) (fr : Fr) : Option Bool → Prop
  | some b => Q b fr
  | none => False
def kTru (Q : Bool → Fr → Prop) (fr : Fr) : Option D → Prop
  | some d => kTruB Q fr (truthy d)
  | none => False
def kTr (Q : Bool → Fr → Prop) : RQ := fun r fr => kTru Q fr (deref fr r)
def kTAnd (C : WC) (b : CX) (Q : Bool → Fr → Prop) : Bool → Fr → Prop := fun c fr => if c = true then wT C b fr Q else Q false fr
def kTOr (C : WC) (b : CX) (Q : Bool → Fr → Prop) : Bool → Fr → Prop := fun c fr => if c = true then Q true fr else wT C b fr Q
def kTNot (Q : Bool → Fr → Prop) : Bool → Fr → Prop := fun c fr => Q (!c) fr
def kSeq (Q : Src → Fr → Prop) : RQ := fun r fr => Q (.seq r) fr
def kEnum (Q : Src → Fr → Prop) : RQ := fun r fr => Q (.enum r) fr
def kR1i (Q : Src → Fr → Prop) (fr : Fr) : Option D → Prop
  | some (.int j) => (-(2 ^ 62) ≤ j ∧ j < 2 ^ 62) ∧ Q (.rng 0 j.toNat) fr
  | _ => False
def kR1 (Q : Src → Fr → Prop) : RQ := fun r fr => kR1i Q fr (deref fr r)
def kR2i (Q : Src → Fr → Prop) (fr : Fr) : Option D → Option D → Prop
  | some (.int i), some (.int j) => (-(2 ^ 62) ≤ i ∧ i < 2 ^ 62 ∧ -(2 ^ 62) ≤ j ∧ j < 2 ^ 62) ∧ Q (.rng i (j - i).toNat) fr
  | _, _ => False
def kR2b (Q : Src → Fr → Prop) (r : Rf) : RQ := fun r2 fr => kR2i Q fr (deref fr r) (deref fr r2)
def kR2 (C : WC) (b : CX) (Q : Src → Fr → Prop) : RQ := fun r fr => wE C b fr (kR2b Q r)
def kZip2 (Q : Src → Fr → Prop) (r : Rf) : RQ := fun r2 fr => Q (.zip r r2) fr
def kZip (C : WC) (b : CX) (Q : Src → Fr → Prop) : RQ := fun r fr => wE C b fr (kZip2 Q r)
/-! statements -/
def seqE (C : WC) (r : CSs) (E : En) : En := { E with nx := fun fr => wSs C r fr E }
def topE (np : Nat) (Q : Rf → List Sl → Prop) : En := { nx := fun fr => Q (.val .non) (outF np fr), rt := fun r fr => Q r (outF np fr) }
def loopE (C : WC) (b : CSs) (t : CT) (r : List D) (E : En) : En := { nx := fun fr => forGo (wSs C b) t r fr E, ct := fun fr => forGo (wSs C b) t r fr E, bk := E.nx, rt := E.rt }
def loopF (C : WC) (b : CSs) (t : CT) (fg : List Nat) (r : List D) (E : En) : En := { nx := fun fr => forGoF (wSs C b) t fg r fr E, ct := fun fr => forGoF (wSs C b) t fg r fr E, bk := fun fr => E.nx (fgtF fr fg), rt := E.rt }
def kFrz (C : WC) (r : CSs) (E : En) (i : Nat) (fr : Fr) : Option Sl → Prop
  | some (.own false d) => wSs C r (fr.set i (.val d)) E
  | some (.val _) => wSs C r fr E
  | _ => False
def kPutE (E : En) : Option Fr → Prop
  | some fr => E.nx fr
  | none => False
def kSet (t : CT) (E : En) : RQ := fun r fr' => match r, t with
    | .tmp d, .n i => ∃ fr2, putSl fr' i (.own false d) = some fr2 ∧ E.nx fr2
    | r, t => match frz fr' r with
      | some (d, fr2) => ∃ fr3, asgT fr2 t d = some fr3 ∧ E.nx fr3
      | none => False
def kSetB (t : CT) (E : En) (i : Nat) (fr : Fr) : Option Sl → Prop
  | some (.own false d) => kPutE E (asgT (fr.set i (.val d)) t d)
  | some (.val d) => kPutE E (asgT fr t d)
  | _ => False
def kA2 (o : Option Fr) (is : List Nat) (ds : List D) : Option Fr := o.bind fun fr => asgAll fr is ds
def kPut (fr : Fr) (i : Nat) (s : Sl) : Option Sl → Option Fr
  | some (.own true _) => none
  | some _ => some (fr.set i s)
  | none => none
def kSetLc (i : Nat) (E : En) : RQ := fun r fr => match r with
    | .tmp d => ∃ fr2, putSl fr i (.own false d) = some fr2 ∧ E.nx fr2
    | _ => False
def kX5 (E : En) (d : D) (k : Nat) (fr : Fr) (b : Bool) (xs : List D) : Option Nat → Prop
  | some n => E.nx (fr.set k (.own b (.lst (xs.set n d))))
  | none => False
def kX4 (E : En) (d : D) (k : Nat) (fr : Fr) : Option D → Option Sl → Prop
  | some (.int j), some (.own b (.lst xs)) => kX5 E d k fr b xs (L2.ixN xs.length j)
  | _, _ => False
def kX3 (E : En) (d : D) (k : Nat) : RQ := fun ri fr => kX4 E d k fr (deref fr ri) fr[k]?
def kX2 (C : WC) (i : CX) (E : En) (d : D) : RQ := fun ro fr => wE C i fr fun ri fr4 => match ro, deref fr4 ri with
      | .bor k, some (.int j) => match fr4[k]? with
        | some (.own b (.lst xs)) => ∃ n, L2.ixN xs.length j = some n ∧ E.nx (fr4.set k (.own b (.lst (xs.set n d))))
        | _ => False
      | _, _ => False
def kX1 (C : WC) (o i : CX) (E : En) : RQ := fun r fr => match frz fr r with
    | some (d, fr2) => wE C o fr2 (kX2 C i E d)
    | none => False
def kX1B (C : WC) (o i : CX) (E : En) (k : Nat) (fr : Fr) : Option Sl → Prop
  | some (.own false d) => wE C o (fr.set k (.val d)) (kX2 C i E d)
  | some (.val d) => wE C o fr (kX2 C i E d)
  | _ => False
def kEx (E : En) : RQ := fun _ fr => E.nx fr
def kRet (E : En) : RQ := fun r fr' => match r with
    | .val d => E.rt (.val d) fr'
    | .tmp d => E.rt (.tmp d) fr'
    | .bor i => match fr'[i]? with
      | some (.own false d) => E.rt (.tmp d) (fr'.set i .none)
      | some (.val d) => E.rt (.val d) fr'
      | _ => False
def kRetB (E : En) (i : Nat) (fr : Fr) : Option Sl → Prop
  | some (.own false d) => E.rt (.tmp d) (fr.set i .none)
  | some (.val d) => E.rt (.val d) fr
  | _ => False
def kAui (i : Nat) (o : Op) (x : Int) (E : En) (fr : Fr) : Option D → Prop
  | some (.int y) => match augF o with
    | some f => E.nx (fr.set i (.val (.int (f x y))))
    | none => False
  | _ => False
def kAu (i : Nat) (o : Op) (x : Int) (E : En) : RQ := fun r fr => kAui i o x E fr (deref fr r)
def kAug (C : WC) (i : Nat) (o : Op) (e : CX) (E : En) (fr : Fr) : Option Sl → Prop
  | some (.val (.int x)) => wE C e fr (kAu i o x E)
  | _ => False
def kIte (C : WC) (a b : CSs) (E : En) : Bool → Fr → Prop := fun c fr => if c = true then wSs C a fr E else wSs C b fr E
def kForI (C : WC) (t : CT) (b : CSs) (E : En) (fr : Fr) : Option (List D) → Prop
  | some xs => forGo (wSs C b) t xs fr E
  | none => False
def kForD (C : WC) (t : CT) (b : CSs) (E : En) (src : Src) (fr : Fr) : Option (List D) → Prop
  | some sv => kForI C t b E fr (itemsT t src sv)
  | none => False
def kForS (C : WC) (t : CT) (b : CSs) (E : En) : Option (Src × Fr) → Prop
  | some (src, fr) => kForD C t b E src fr (srcDs fr src)
  | none => False
def kFor (C : WC) (t : CT) (b : CSs) (E : En) : Src → Fr → Prop := fun src fr => kForS C t b E (frzSrc fr src)
def kForC (C : WC) (b : CSs) (t : CT) (r : List D) (E : En) : Option Fr → Prop
  | some fr => wSs C b fr (loopE C b t r E)
  | none => False
def kFofI (C : WC) (t : CT) (fg : List Nat) (b : CSs) (E : En) (fr : Fr) : Option (List D) → Prop
  | some xs => forGoF (wSs C b) t fg xs (fgtF fr fg) E
  | none => False
def kFofD (C : WC) (t : CT) (fg : List Nat) (b : CSs) (E : En) (src : Src) (fr : Fr) : Option (List D) → Prop
  | some sv => kFofI C t fg b E fr (itemsT t src sv)
  | none => False
def kFofS (C : WC) (t : CT) (fg : List Nat) (b : CSs) (E : En) : Option (Src × Fr) → Prop
  | some (src, fr) => kFofD C t fg b E src fr (srcDs fr src)
  | none => False
def kFof (C : WC) (t : CT) (fg : List Nat) (b : CSs) (E : En) : Src → Fr → Prop := fun src fr => kFofS C t fg b E (frzSrc fr src)
def kFofC (C : WC) (b : CSs) (t : CT) (fg : List Nat) (r : List D) (E : En) : Option Fr → Prop
  | some fr => wSs C b fr (loopF C b t fg r E)
  | none => False
def kFq (q : D → Src) : Option (D × Fr) → Option (Src × Fr)
  | some (d, fr) => some (q d, fr)
  | none => none
def kFb (i : Nat) (fr : Fr) : Option Sl → Option (D × Fr)
  | some (.own false d) => some (d, fr.set i (.val d))
  | some (.val d) => some (d, fr)
  | _ => none
theorem ex_put {o : Option Fr} {E : En} : (∃ fr2, o = some fr2 ∧ E.nx fr2) = kPutE E o := by
  cases o <;> simp [kPutE]
theorem fgtF_cons {fr : Fr} {i : Nat} {is : List Nat} : fgtF fr (i :: is) = fgtF (fg1 fr i) is := rfl
theorem fg1_get : ∀ {fr : Fr} {i j : Nat}, (fg1 fr i)[j]? = if i = j then fr[j]?.map fgS else fr[j]?
  | [], i, j => by simp [fg1]
  | x :: r, 0, 0 => by simp [fg1]
  | x :: r, 0, j + 1 => by simp [fg1]
  | x :: r, i + 1, 0 => by simp [fg1]
  | x :: r, i + 1, j + 1 => by simp [fg1, fg1_get]
theorem fgS_fgS {s : Sl} : fgS (fgS s) = fgS s := by
  cases s with
  | none => rfl
  | val d => rfl
  | own b d => cases b <;> rfl
theorem fgtF_get : ∀ {is : List Nat} {fr : Fr} {j : Nat}, (fgtF fr is)[j]? = if j ∈ is then fr[j]?.map fgS else fr[j]?
  | [], fr, j => by simp [fgtF]
  | i :: is, fr, j => by
    rw [fgtF_cons, fgtF_get, fg1_get]
    by_cases h1 : i = j
    · subst h1
      by_cases h2 : i ∈ is
      · simp [h2]
        cases fr[i]? <;> simp [fgS_fgS]
      · simp [h2]
    · have h1' : ¬ j = i := fun z => h1 z.symm
      simp [h1, h1']
theorem fgtF_idem {fr : Fr} {is : List Nat} : fgtF (fgtF fr is) is = fgtF fr is := by
  apply List.ext_getElem?
  intro j
  rw [fgtF_get, fgtF_get]
  by_cases h : j ∈ is
  · simp [h]
    cases fr[j]? <;> simp [fgS_fgS]
  · simp [h]
theorem forGoF_fgt {body : Fr → En → Prop} {t : CT} {fg : List Nat} {xs : List D} {fr : Fr} {E : En} : forGoF body t fg xs fr E = forGoF body t fg xs (fgtF fr fg) E := by
  cases xs with
  | nil => unfold forGoF; rw [fgtF_idem]
  | cons x r => unfold forGoF; rw [fgtF_idem]
theorem ownB_iff {fr : Fr} {src : Src} {os : List Nat} : (∀ i ∈ os, isOwn fr i = false ∧ i < fr.length ∧ i ∉ srcBors src) = (ownB fr src os = true) := by
  unfold ownB
  simp [and_assoc]

/-! steps: expressions -/
theorem frz_b : frz fr (.bor i) = kFb i fr fr[i]? := by
  show (match fr[i]? with
    | some (.own false d) => some (d, fr.set i (.val d))
    | some (.val d) => some (d, fr)
    | _ => none) = _
  unfold kFb
  cases fr[i]? with
  | none => rfl
  | some s => cases s with
    | none => rfl
    | val d => rfl
    | own b d => cases b <;> rfl
theorem wE_k : wE C (.k d) fr Q = Q (.val d) fr := rfl
theorem wE_v : wE C (.v i) fr Q = kV Q i fr fr[i]? := by
  unfold wE kV
  cases fr[i]? with
  | none => rfl
  | some s => cases s <;> rfl
theorem kV_v : kV Q i fr (some (.val d)) = Q (.val d) fr := rfl
theorem kV_o : kV Q i fr (some (.own b d)) = Q (.bor i) fr := rfl
theorem wE_fz : wE C (.fz a) fr Q = wE C a fr (kFz Q) := rfl
theorem kFz_v : kFz Q (.val d) fr = Q (.val d) fr := rfl
theorem kFz_t : kFz Q (.tmp d) fr = Q (.val d) fr := rfl
theorem kFz_b : kFz Q (.bor i) fr = kFzB Q i fr fr[i]? := by
  unfold kFz
  rw [frz_b]
  unfold kFb kFzB
  cases fr[i]? with
  | none => rfl
  | some s => cases s with
    | none => rfl
    | val d => rfl
    | own b d => cases b <;> rfl
theorem kFzB_v : kFzB Q i fr (some (.val d)) = Q (.val d) fr := rfl
theorem kFzB_o : kFzB Q i fr (some (.own false d)) = Q (.val d) (fr.set i (.val d)) := rfl
theorem wEs_n : wEs C .nil fr Q = Q [] fr := rfl
theorem wEs_c : wEs C (.cons a r) fr Q = wE C a fr (kCons C r Q) := rfl
theorem kCons_v : kCons C r Q (.val d) fr = wEs C r fr (kPush (.val d) Q) := rfl
theorem kCons_t : kCons C r Q (.tmp d) fr = wEs C r fr (kPush (.tmp d) Q) := rfl
theorem kCons_b : kCons C r Q (.bor i) fr = wEs C r fr (kPush (.bor i) Q) := rfl
theorem kPush_ : kPush x Q xs fr = Q (x :: xs) fr := rfl
theorem wE_op : wE C (.op o es) fr Q = wEs C es fr (kOp o Q) := rfl
theorem kOp_ : kOp o Q rs fr = opW o rs fr Q := rfl
theorem wE_mt : wE C (.mt o a es) fr Q = wE C a fr (kMt C o es Q) := rfl
theorem kMt_v : kMt C o es Q (.val d) fr = (mtTy o (deref fr (.val d)) ∧ wEs C es fr (kPush (.val d) (kOp o Q))) := rfl
theorem kMt_t : kMt C o es Q (.tmp d) fr = (mtTy o (deref fr (.tmp d)) ∧ wEs C es fr (kPush (.tmp d) (kOp o Q))) := rfl
theorem kMt_b : kMt C o es Q (.bor i) fr = (mtTy o (deref fr (.bor i)) ∧ wEs C es fr (kPush (.bor i) (kOp o Q))) := rfl
theorem wE_sl2 : wE C (.sl2 a lo hi) fr Q = wE C a fr (kS1 C lo hi Q) := by
  refine congrArg (wE C a fr) (show (fun ra fr1 => wE C lo fr1 fun rl fr2 => match deref fr2 rl with
    | some (.int i) => wE C hi fr2 fun rh fr3 => match deref fr3 rh, deref fr3 ra with
      | some (.int j), some x => sliceW x (some i) (some j) fun r => Q r fr3
      | _, _ => False
    | _ => False) = kS1 C lo hi Q from ?_)
  funext ra fr1
  refine congrArg (wE C lo fr1) (show _ = kS2 C hi Q ra from ?_)
  funext rl fr2
  show _ = kS2i C hi Q ra fr2 (deref fr2 rl)
  cases deref fr2 rl with
  | none => rfl
  | some d =>
    cases d <;> rfl
theorem kS1_v : kS1 C lo hi Q (.val d) fr = wE C lo fr (kS2 C hi Q (.val d)) := rfl
theorem kS1_t : kS1 C lo hi Q (.tmp d) fr = wE C lo fr (kS2 C hi Q (.tmp d)) := rfl
theorem kS1_b : kS1 C lo hi Q (.bor i) fr = wE C lo fr (kS2 C hi Q (.bor i)) := rfl
theorem kS2_v : kS2 C hi Q ra (.val d) fr = kS2i C hi Q ra fr (deref fr (.val d)) := rfl
theorem kS2_t : kS2 C hi Q ra (.tmp d) fr = kS2i C hi Q ra fr (deref fr (.tmp d)) := rfl
theorem kS2_b : kS2 C hi Q ra (.bor i) fr = kS2i C hi Q ra fr (deref fr (.bor i)) := rfl
theorem kS2i_i : kS2i C hi Q ra fr (some (.int j)) = wE C hi fr (kS3 Q ra j) := rfl
theorem kS3_v : kS3 Q ra j (.val d) fr = kS3i Q j fr (deref fr (.val d)) (deref fr ra) := rfl
theorem kS3_t : kS3 Q ra j (.tmp d) fr = kS3i Q j fr (deref fr (.tmp d)) (deref fr ra) := rfl
theorem kS3_b : kS3 Q ra j (.bor i) fr = kS3i Q j fr (deref fr (.bor i)) (deref fr ra) := rfl
theorem kS3i_i : kS3i Q i fr (some (.int j)) (some x) = sliceW x (some i) (some j) (kRd Q fr) := rfl
theorem kRd_v : kRd Q fr (.val d) = Q (.val d) fr := rfl
theorem kRd_t : kRd Q fr (.tmp d) = Q (.tmp d) fr := rfl
theorem kRd_b : kRd Q fr (.bor i) = Q (.bor i) fr := rfl
theorem wE_and : wE C (.and a b) fr Q = wE C a fr (kAnd C b Q) := by
  refine congrArg (wE C a fr) (show (fun r fr' => match deref fr' r with
    | some (.bl c) => if c = true then wE C b fr' Q else Q (.val (.bl false)) fr'
    | _ => False) = kAnd C b Q from ?_)
  funext r fr1
  show _ = kAndB C b Q fr1 (deref fr1 r)
  cases deref fr1 r with
  | none => rfl
  | some d => cases d <;> rfl
theorem kAnd_v : kAnd C b Q (.val d) fr = kAndB C b Q fr (deref fr (.val d)) := rfl
theorem kAnd_t : kAnd C b Q (.tmp d) fr = kAndB C b Q fr (deref fr (.tmp d)) := rfl
theorem kAnd_b : kAnd C b Q (.bor i) fr = kAndB C b Q fr (deref fr (.bor i)) := rfl
theorem kAndB_ : kAndB C b Q fr (some (.bl c)) = if c = true then wE C b fr Q else Q (.val (.bl false)) fr := rfl
theorem wE_or : wE C (.or a b) fr Q = wE C a fr (kOr C b Q) := by
  refine congrArg (wE C a fr) (show (fun r fr' => match deref fr' r with
    | some (.bl c) => if c = true then Q (.val (.bl true)) fr' else wE C b fr' Q
    | _ => False) = kOr C b Q from ?_)
  funext r fr1
  show _ = kOrB C b Q fr1 (deref fr1 r)
  cases deref fr1 r with
  | none => rfl
  | some d => cases d <;> rfl
theorem kOr_v : kOr C b Q (.val d) fr = kOrB C b Q fr (deref fr (.val d)) := rfl
theorem kOr_t : kOr C b Q (.tmp d) fr = kOrB C b Q fr (deref fr (.tmp d)) := rfl
theorem kOr_b : kOr C b Q (.bor i) fr = kOrB C b Q fr (deref fr (.bor i)) := rfl
theorem kOrB_ : kOrB C b Q fr (some (.bl c)) = if c = true then Q (.val (.bl true)) fr else wE C b fr Q := rfl
theorem wE_not : wE C (.not a) fr Q = wE C a fr (kNot Q) := by
  refine congrArg (wE C a fr) (show (fun r fr' => match deref fr' r with
    | some (.bl c) => Q (.val (.bl (!c))) fr'
    | _ => False) = kNot Q from ?_)
  funext r fr1
  show _ = kNotB Q fr1 (deref fr1 r)
  cases deref fr1 r with
  | none => rfl
  | some d => cases d <;> rfl
theorem kNot_v : kNot Q (.val d) fr = kNotB Q fr (deref fr (.val d)) := rfl
theorem kNot_t : kNot Q (.tmp d) fr = kNotB Q fr (deref fr (.tmp d)) := rfl
theorem kNot_b : kNot Q (.bor i) fr = kNotB Q fr (deref fr (.bor i)) := rfl
theorem kNotB_ : kNotB Q fr (some (.bl c)) = Q (.val (.bl (!c))) fr := rfl
theorem wE_ife : wE C (.ife t a b) fr Q = wT C t fr (kIfe C a b Q) := rfl
theorem kIfe_ : kIfe C a b Q c fr = if c = true then wE C a fr Q else wE C b fr Q := rfl
theorem wE_tup : wE C (.tup es) fr Q = wZ C es fr (kTup Q) := rfl
theorem kTup_ : kTup Q ds fr = (ds.length ≤ sizeLine ∧ Q (.val (.tup ds)) fr) := rfl
theorem wE_lst : wE C (.lst es) fr Q = wZ C es fr (kLst Q) := rfl
theorem kLst_ : kLst Q ds fr = (ds.length ≤ sizeLine ∧ Q (.tmp (.lst ds)) fr) := rfl
theorem wZ_n : wZ C .nil fr Q = Q [] fr := rfl
theorem wZ_c : wZ C (.cons a r) fr Q = wE C a fr (kZ C r Q) := rfl
theorem kZ_v : kZ C r Q (.val d) fr = wZ C r fr (kZp d Q) := rfl
theorem kZ_t : kZ C r Q (.tmp d) fr = wZ C r fr (kZp d Q) := rfl
theorem kZ_b : kZ C r Q (.bor i) fr = kZB C r Q i fr fr[i]? := by
  unfold kZ
  rw [frz_b]
  unfold kFb kZB
  cases fr[i]? with
  | none => rfl
  | some s => cases s with
    | none => rfl
    | val d => rfl
    | own b d => cases b <;> rfl
theorem kZB_v : kZB C r Q i fr (some (.val d)) = wZ C r fr (kZp d Q) := rfl
theorem kZB_o : kZB C r Q i fr (some (.own false d)) = wZ C r (fr.set i (.val d)) (kZp d Q) := rfl
theorem kZp_ : kZp d Q ds fr = Q (d :: ds) fr := rfl
theorem wE_call : wE C (.call f es) fr Q = wEs C es fr (kCall C f Q) := by
  unfold wE
  congr 1
  funext rs fr1
  unfold kCall kCallS
  cases argSls fr1 rs with
  | none => rfl
  | some ss =>
    have : (fun r outs => ∃ fr2, giveBack fr1 rs outs = some fr2 ∧ Q r fr2) = kOut Q rs fr1 := by
      funext r outs
      unfold kOut kGb
      cases giveBack fr1 rs outs <;> simp
    simp only [this]
theorem kCall_ : kCall C f Q rs fr = kCallS C f Q rs fr (argSls fr rs) := rfl
theorem kCallS_ : kCallS C f Q rs fr (some ss) = ((borrows rs).Nodup ∧ C f ss (kOut Q rs fr)) := rfl
theorem kOut_v : kOut Q rs fr (.val d) outs = kGb Q (.val d) (giveBack fr rs outs) := rfl
theorem kOut_t : kOut Q rs fr (.tmp d) outs = kGb Q (.tmp d) (giveBack fr rs outs) := rfl
theorem kOut_b : kOut Q rs fr (.bor i) outs = kGb Q (.bor i) (giveBack fr rs outs) := rfl
theorem kGb_ : kGb Q r (some fr) = Q r fr := rfl
theorem argSls_n : argSls fr [] = some [] := rfl
theorem argSls_c : argSls fr (r :: rs) = kSlc (argSl fr r) (argSls fr rs) := by
  show (match argSl fr r, argSls fr rs with
    | some s, some ss => some (s :: ss)
    | _, _ => none) = _
  cases argSl fr r <;> cases argSls fr rs <;> rfl
theorem kSlc_ : kSlc (some s) (some ss) = some (s :: ss) := rfl
theorem argSl_v : argSl fr (.val d) = some (.val d) := rfl
theorem argSl_t : argSl fr (.tmp d) = some (.own false d) := rfl
theorem argSl_b : argSl fr (.bor i) = kAs fr[i]? := by
  show (match fr[i]? with
    | some (.own _ d) => some (Sl.own true d)
    | some (.val d) => some (Sl.val d)
    | _ => none) = _
  cases fr[i]? with
  | none => rfl
  | some s => cases s <;> rfl
theorem kAs_v : kAs (some (.val d)) = some (.val d) := rfl
theorem kAs_o : kAs (some (.own b d)) = some (.own true d) := rfl
theorem bors_n : borrows [] = [] := rfl
theorem bors_v : borrows (.val d :: rs) = borrows rs := rfl
theorem bors_t : borrows (.tmp d :: rs) = borrows rs := rfl
theorem bors_b : borrows (.bor i :: rs) = i :: borrows rs := rfl
theorem gb_n : giveBack fr [] outs = some fr := by
  cases outs <;> rfl
theorem gb_v : giveBack fr (.val d :: rs) (o :: outs) = giveBack fr rs outs := rfl
theorem gb_t : giveBack fr (.tmp d :: rs) (o :: outs) = giveBack fr rs outs := rfl
theorem gb_o : giveBack fr (.bor i :: rs) (.own true d :: outs) = kGv rs outs i d fr fr[i]? := by
  show (match fr[i]? with
    | some (.own b _) => giveBack (fr.set i (.own b d)) rs outs
    | _ => none) = _
  unfold kGv
  rfl
theorem kGv_ : kGv rs outs i d fr (some (.own b x)) = giveBack (fr.set i (.own b d)) rs outs := rfl
theorem gb_w : giveBack fr (.bor i :: rs) (.none :: outs) = kGw rs outs fr fr[i]? := by
  show (match fr[i]? with
    | some (.val _) => giveBack fr rs outs
    | _ => none) = _
  unfold kGw
  rfl
theorem kGw_ : kGw rs outs fr (some (.val x)) = giveBack fr rs outs := rfl
theorem wE_lc : wE C (.lc ow t it c e) fr Q = wI C it fr (kLc C ow t c e Q) := by
  unfold wE
  congr 1
  funext src fr1
  unfold kLc kLcD
  cases h1 : srcDs fr1 src with
  | none => simp
  | some sv =>
    unfold kLcI
    cases h2 : itemsT t src sv with
    | none => simp [h2]
    | some xs =>
      simp only [Option.some.injEq, exists_and_left, exists_eq_left', h2, ownB_iff]
      rfl
theorem kLc_ : kLc C ow t c e Q src fr = kLcD C ow t c e Q src fr (srcDs fr src) := rfl
theorem kLcD_ : kLcD C ow t c e Q src fr (some sv) = kLcI C ow t c e Q src fr sv (itemsT t src sv) := rfl
theorem kLcI_ : kLcI C ow t c e Q src fr sv (some xs) = (ownB fr src ow = true ∧ xs.length ≤ sizeLine ∧ lcGo src sv ow (lcT C t c e) xs [] (wipeF fr ow) (kLcE Q fr ow)) := rfl
theorem kLcE_ : kLcE Q fr ow acc fr2 = Q (.tmp (.lst acc)) (restF fr fr2 ow) := rfl
theorem lcT_ : lcT C t c e x fr K = kTu C c e K (asgT fr t x) := by
  show (∃ fr3, asgT fr t x = some fr3 ∧ wO C c fr3 (kTc C e K)) = _
  cases asgT fr t x <;> simp [kTu]
theorem kTu_ : kTu C c e K (some fr) = wO C c fr (kTc C e K) := rfl
theorem wO_n : wO C .none fr Q = Q true fr := rfl
theorem wO_s : wO C (.some a) fr Q = wT C a fr Q := rfl
theorem kTc_ : kTc C e K b fr = if b = true then wE C e fr (kTe K) else K none fr := rfl
theorem kTe_v : kTe K (.val d) fr = K (some d) fr := rfl
theorem kTe_t : kTe K (.tmp d) fr = K (some d) fr := rfl
theorem kTe_b : kTe K (.bor i) fr = kTeB K i fr fr[i]? := by
  unfold kTe
  rw [frz_b]
  unfold kFb kTeB
  cases fr[i]? with
  | none => rfl
  | some s => cases s with
    | none => rfl
    | val d => rfl
    | own b d => cases b <;> rfl
theorem kTeB_v : kTeB K i fr (some (.val d)) = K (some d) fr := rfl
theorem kTeB_o : kTeB K i fr (some (.own false d)) = K (some d) (fr.set i (.val d)) := rfl
theorem wE_ssc : wE C (.ssc ow t it c e) fr Q = wI C it fr (kSsc C ow t c e Q) := by
  unfold wE
  congr 1
  funext src fr1
  unfold kSsc kSscD
  cases h1 : srcDs fr1 src with
  | none => simp
  | some sv =>
    unfold kSscI
    cases h2 : itemsT t src sv with
    | none => simp [h2]
    | some xs =>
      simp only [Option.some.injEq, exists_and_left, exists_eq_left', h2, ownB_iff]
      rfl
theorem kSsc_ : kSsc C ow t c e Q src fr = kSscD C ow t c e Q src fr (srcDs fr src) := rfl
theorem kSscD_ : kSscD C ow t c e Q src fr (some sv) = kSscI C ow t c e Q src fr sv (itemsT t src sv) := rfl
theorem kSscI_ : kSscI C ow t c e Q src fr sv (some xs) = (ownB fr src ow = true ∧ xs.length ≤ 1000 ∧ lcGo src sv ow (sscT C t c e) xs [] (wipeF fr ow) (kSscE Q fr ow)) := rfl
theorem sscT_ : sscT C t c e x fr K = kTsu C c e K (asgT fr t x) := by
  show (∃ fr3, asgT fr t x = some fr3 ∧ wO C c fr3 (kTsc C e K)) = _
  cases asgT fr t x <;> simp [kTsu]
theorem kTsu_ : kTsu C c e K (some fr) = wO C c fr (kTsc C e K) := rfl
theorem kTsc_ : kTsc C e K b fr = if b = true then wE C e fr (kTse K) else K none fr := rfl
theorem kTse_v : kTse K (.val (.str x)) fr = K (some (.str x)) fr := rfl
/-! operations -/
theorem op_add : opW .add rs fr Q = kDer .add Q fr (derefs fr rs) := by
  unfold opW kDer
  rfl
theorem op_sub : opW .sub rs fr Q = kDer .sub Q fr (derefs fr rs) := by
  unfold opW kDer
  rfl
theorem op_mul : opW .mul rs fr Q = kDer .mul Q fr (derefs fr rs) := by
  unfold opW kDer
  rfl
theorem op_fdiv : opW .fdiv rs fr Q = kDer .fdiv Q fr (derefs fr rs) := by
  unfold opW kDer
  rfl
theorem op_mod : opW .mod rs fr Q = kDer .mod Q fr (derefs fr rs) := by
  unfold opW kDer
  rfl
theorem op_pow : opW .pow rs fr Q = kDer .pow Q fr (derefs fr rs) := by
  unfold opW kDer
  rfl
theorem op_shl : opW .shl rs fr Q = kDer .shl Q fr (derefs fr rs) := by
  unfold opW kDer
  rfl
theorem op_shr : opW .shr rs fr Q = kDer .shr Q fr (derefs fr rs) := by
  unfold opW kDer
  rfl
theorem op_neg : opW .neg rs fr Q = kDer .neg Q fr (derefs fr rs) := by
  unfold opW kDer
  rfl
theorem op_eq : opW .eq rs fr Q = kDer .eq Q fr (derefs fr rs) := by
  unfold opW kDer
  rfl
theorem op_ne : opW .ne rs fr Q = kDer .ne Q fr (derefs fr rs) := by
  unfold opW kDer
  rfl
theorem op_lt : opW .lt rs fr Q = kDer .lt Q fr (derefs fr rs) := by
  unfold opW kDer
  rfl
theorem op_le : opW .le rs fr Q = kDer .le Q fr (derefs fr rs) := by
  unfold opW kDer
  rfl
theorem op_gt : opW .gt rs fr Q = kDer .gt Q fr (derefs fr rs) := by
  unfold opW kDer
  rfl
theorem op_ge : opW .ge rs fr Q = kDer .ge Q fr (derefs fr rs) := by
  unfold opW kDer
  rfl
theorem op_isin : opW .isin rs fr Q = kDer .isin Q fr (derefs fr rs) := by
  unfold opW kDer
  rfl
theorem op_notin : opW .notin rs fr Q = kDer .notin Q fr (derefs fr rs) := by
  unfold opW kDer
  rfl
theorem op_isN : opW .isN rs fr Q = kDer .isN Q fr (derefs fr rs) := by
  unfold opW kDer
  rfl
theorem op_notN : opW .notN rs fr Q = kDer .notN Q fr (derefs fr rs) := by
  unfold opW kDer
  rfl
theorem op_len : opW .len rs fr Q = kDer .len Q fr (derefs fr rs) := by
  unfold opW kDer
  rfl
theorem op_toInt : opW .toInt rs fr Q = kDer .toInt Q fr (derefs fr rs) := by
  unfold opW kDer
  rfl
theorem op_toList : opW .toList rs fr Q = kDer .toList Q fr (derefs fr rs) := by
  unfold opW kDer
  rfl
theorem op_toTup : opW .toTup rs fr Q = kDer .toTup Q fr (derefs fr rs) := by
  unfold opW kDer
  rfl
theorem op_sum : opW .sum rs fr Q = kDer .sum Q fr (derefs fr rs) := by
  unfold opW kDer
  rfl
theorem op_max1 : opW .max1 rs fr Q = kDer .max1 Q fr (derefs fr rs) := by
  unfold opW kDer
  rfl
theorem op_min1 : opW .min1 rs fr Q = kDer .min1 Q fr (derefs fr rs) := by
  unfold opW kDer
  rfl
theorem op_any : opW .any rs fr Q = kDer .any Q fr (derefs fr rs) := by
  unfold opW kDer
  rfl
theorem op_all : opW .all rs fr Q = kDer .all Q fr (derefs fr rs) := by
  unfold opW kDer
  rfl
theorem op_sorted : opW .sorted rs fr Q = kDer .sorted Q fr (derefs fr rs) := by
  unfold opW kDer
  rfl
theorem op_max2 : opW .max2 rs fr Q = kDer .max2 Q fr (derefs fr rs) := by
  unfold opW kDer
  rfl
theorem op_min2 : opW .min2 rs fr Q = kDer .min2 Q fr (derefs fr rs) := by
  unfold opW kDer
  rfl
theorem op_ix : opW .ix rs fr Q = kDer .ix Q fr (derefs fr rs) := by
  unfold opW kDer
  rfl
theorem op_slAll : opW .slAll rs fr Q = kDer .slAll Q fr (derefs fr rs) := by
  unfold opW kDer
  rfl
theorem op_slLo : opW .slLo rs fr Q = kDer .slLo Q fr (derefs fr rs) := by
  unfold opW kDer
  rfl
theorem op_slHi : opW .slHi rs fr Q = kDer .slHi Q fr (derefs fr rs) := by
  unfold opW kDer
  rfl
theorem op_join : opW .join rs fr Q = kDer .join Q fr (derefs fr rs) := by
  unfold opW kDer
  rfl
theorem op_dget2 : opW .dget2 rs fr Q = kDer .dget2 Q fr (derefs fr rs) := by
  unfold opW kDer
  rfl
theorem op_setIx : opW .setIx rs fr Q = kDer .setIx Q fr (derefs fr rs) := by
  unfold opW kDer
  rfl
theorem op_sortSet : opW .sortSet rs fr Q = kDer .sortSet Q fr (derefs fr rs) := by
  unfold opW kDer
  rfl
theorem op_slRev : opW .slRev rs fr Q = kDer .slRev Q fr (derefs fr rs) := by
  unfold opW kDer
  rfl
theorem op_lrng : opW .lrng rs fr Q = kDer .lrng Q fr (derefs fr rs) := by
  unfold opW kDer
  rfl
theorem op_indexL : opW .indexL rs fr Q = kDer .indexL Q fr (derefs fr rs) := by
  unfold opW kDer
  rfl
theorem op_indexT : opW .indexT rs fr Q = kDer .indexT Q fr (derefs fr rs) := by
  unfold opW kDer
  rfl
theorem op_isi : opW (.isi tys b) rs fr Q = kDer (.isi tys b) Q fr (derefs fr rs) := by
  unfold opW kDer
  rfl
theorem kDer_ : kDer o Q fr (some ds) = readW o ds (kRd Q fr) := rfl
theorem derefs_n : derefs fr [] = some [] := rfl
theorem derefs_c : derefs fr (r :: rs) = kDc (deref fr r) (derefs fr rs) := by
  unfold kDc
  simp only [derefs]
  all_goals (cases deref fr r <;> cases derefs fr rs <;> rfl)
theorem kDc_ : kDc (some d) (some ds) = some (d :: ds) := rfl
theorem deref_v : deref fr (.val d) = some d := rfl
theorem deref_t : deref fr (.tmp d) = some d := rfl
theorem deref_b : deref fr (.bor i) = kDb fr[i]? := by
  show (match fr[i]? with
    | some (.own _ d) => some d
    | some (.val d) => some d
    | _ => none) = _
  cases fr[i]? with
  | none => rfl
  | some s => cases s <;> rfl
theorem kDb_v : kDb (some (.val d)) = some d := rfl
theorem kDb_o : kDb (some (.own b d)) = some d := rfl
theorem op_pop : opW .pop [.bor i] fr Q = kPop Q i fr fr[i]? := by
  unfold opW kPop kPopL
  rfl
theorem kPop_ : kPop Q i fr (some (.own b (.lst xs))) = kPopL Q i fr b xs xs.getLast? := rfl
theorem kPopL_ : kPopL Q i fr b xs (some d) = Q (.val d) (fr.set i (.own b (.lst xs.dropLast))) := rfl
theorem op_append : opW .append [.bor i, .val d] fr Q = kApp Q i d fr fr[i]? := by
  unfold opW kApp
  rfl
theorem kApp_ : kApp Q i d fr (some (.own b (.lst xs))) = (xs.length < sizeLine ∧ Q (.val .non) (fr.set i (.own b (.lst (xs ++ [d]))))) := rfl
theorem op_insert : opW .insert [.bor i, .val (.int j), .val d] fr Q = kIns Q i j d fr fr[i]? := by
  unfold opW kIns
  rfl
theorem kIns_ : kIns Q i j d fr (some (.own b (.lst xs))) = (0 ≤ j ∧ j ≤ xs.length ∧ xs.length < sizeLine ∧ Q (.val .non) (fr.set i (.own b (.lst (xs.take j.toNat ++ d :: xs.drop j.toNat))))) := rfl
theorem op_reverse : opW .reverse [.bor i] fr Q = kRev Q i fr fr[i]? := by
  unfold opW kRev
  rfl
theorem kRev_ : kRev Q i fr (some (.own b (.lst xs))) = Q (.val .non) (fr.set i (.own b (.lst xs.reverse))) := rfl
theorem rd_add : readW .add [x, y] Q = addW x y Q := rfl
theorem rd_mul : readW .mul [x, y] Q = mulW x y Q := rfl
theorem rd_eq : readW .eq [x, y] Q = eqW false x y Q := rfl
theorem rd_ne : readW .ne [x, y] Q = eqW true x y Q := rfl
theorem rd_lt : readW .lt [x, y] Q = ltW x y Q := rfl
theorem rd_gt : readW .gt [x, y] Q = gtW x y Q := rfl
theorem rd_ix : readW .ix [x, y] Q = ixW x y Q := rfl
theorem rd_slLo : readW .slLo [x, y] Q = slLoW x y Q := rfl
theorem rd_slHi : readW .slHi [x, y] Q = slHiW x y Q := rfl
theorem rd_join : readW .join [x, y] Q = joinW x y Q := rfl
theorem rd_indexL : readW .indexL [x, y] Q = indexLW x y Q := rfl
theorem rd_indexT : readW .indexT [x, y] Q = indexTW x y Q := rfl
theorem rd_isN : readW .isN [x] Q = isNW false x Q := rfl
theorem rd_notN : readW .notN [x] Q = isNW true x Q := rfl
theorem rd_len : readW .len [x] Q = lenW x Q := rfl
theorem rd_toInt : readW .toInt [x] Q = toIntW x Q := rfl
theorem rd_toList : readW .toList [x] Q = toListW x Q := rfl
theorem rd_toTup : readW .toTup [x] Q = toTupW x Q := rfl
theorem rd_any : readW .any [x] Q = anyW x Q := rfl
theorem rd_all : readW .all [x] Q = allW x Q := rfl
theorem rd_max1 : readW .max1 [x] Q = max1W x Q := rfl
theorem rd_min1 : readW .min1 [x] Q = min1W x Q := rfl
theorem rd_sum : readW .sum [x] Q = sumW x Q := rfl
theorem rd_sorted : readW .sorted [x] Q = srtW x Q := rfl
theorem rd_sortSet : readW .sortSet [x] Q = sortSetW x Q := rfl
theorem rd_slRev : readW .slRev [x] Q = revW x Q := rfl
theorem rd_lrng : readW .lrng [x] Q = lrngW x Q := rfl
theorem rd_sub : readW .sub [.int i, .int j] Q = Q (.val (.int (i - j))) := rfl
theorem rd_fdiv : readW .fdiv [.int i, .int j] Q = (CDiv i j ∧ Q (.val (.int (i / j)))) := rfl
theorem rd_mod : readW .mod [.int i, .int j] Q = (0 < j ∧ Q (.val (.int (i % j)))) := rfl
theorem rd_pow : readW .pow [.int i, .int j] Q = (CPow i j ∧ Q (.val (.int (i ^ j.toNat)))) := rfl
theorem rd_shl : readW .shl [.int i, .int j] Q = (CPow i j ∧ Q (.val (.int (i * 2 ^ j.toNat)))) := rfl
theorem rd_shr : readW .shr [.int i, .int j] Q = (0 ≤ j ∧ Q (.val (.int (i / 2 ^ j.toNat)))) := rfl
theorem rd_le : readW .le [.int i, .int j] Q = Q (.val (.bl (decide (i ≤ j)))) := rfl
theorem rd_ge : readW .ge [.int i, .int j] Q = Q (.val (.bl (decide (j ≤ i)))) := rfl
theorem rd_max2 : readW .max2 [.int i, .int j] Q = Q (.val (.int (if j > i then j else i))) := rfl
theorem rd_min2 : readW .min2 [.int i, .int j] Q = Q (.val (.int (if j < i then j else i))) := rfl
theorem rd_neg : readW .neg [.int i] Q = Q (.val (.int (-i))) := rfl
theorem rd_isin : readW .isin [x, y] Q = inW x y (fun b => Q (.val (.bl b))) := rfl
theorem rd_notin : readW .notin [x, y] Q = inW x y (fun b => Q (.val (.bl (!b)))) := rfl
theorem rd_slAll : readW .slAll [x] Q = sliceW x none none Q := rfl
theorem rd_isi : readW (.isi tys b) [d] Q = Q (.val (.bl (isiD d tys))) := rfl
theorem add_i : addW (.int i) (.int j) Q = Q (.val (.int (i + j))) := rfl
theorem add_s : addW (.str x) (.str y) Q = (x.length + y.length ≤ sizeLine ∧ Q (.val (.str (x ++ y)))) := rfl
theorem add_l : addW (.lst xs) (.lst ys) Q = (xs.length + ys.length ≤ sizeLine ∧ Q (.tmp (.lst (xs ++ ys)))) := rfl
theorem add_t : addW (.tup xs) (.tup ys) Q = (xs.length + ys.length ≤ sizeLine ∧ Q (.val (.tup (xs ++ ys)))) := rfl
theorem mul_i : mulW (.int i) (.int j) Q = (CMul i j ∧ Q (.val (.int (i * j)))) := rfl
theorem mul_s : mulW (.str x) (.int j) Q = (2 ≤ j ∧ x.length = 1 ∧ j ≤ 1000000 ∧ Q (.val (.str ⟨(List.replicate j.toNat (x.cps.getD 0 0)).toArray⟩))) := rfl
theorem eq_ : eqW b x y Q = (Pl 30 x ∧ Pl 30 y ∧ Q (.val (.bl (eqvD x y != b)))) := rfl
theorem lt_i : ltW (.int i) (.int j) Q = Q (.val (.bl (decide (i < j)))) := rfl
theorem lt_s : ltW (.str x) (.str y) Q = Q (.val (.bl (decide (sg x < sg y)))) := rfl
theorem gt_i : gtW (.int i) (.int j) Q = Q (.val (.bl (decide (j < i)))) := rfl
theorem gt_s : gtW (.str x) (.str y) Q = Q (.val (.bl (decide (sg y < sg x)))) := rfl
theorem in_l : inW x (.lst ys) F = (Pl 30 x ∧ Pl 30 (.lst ys) ∧ F (ys.any fun z => eqvD z x)) := rfl
theorem in_t : inW x (.tup ys) F = (Pl 30 x ∧ Pl 30 (.tup ys) ∧ F (ys.any fun z => eqvD z x)) := rfl
theorem isN_non : isNW b (.non) Q = Q (.val (.bl (!b))) := rfl
theorem isN_bl : isNW b (.bl x) Q = Q (.val (.bl b)) := rfl
theorem isN_int : isNW b (.int i) Q = Q (.val (.bl b)) := rfl
theorem isN_str : isNW b (.str x) Q = Q (.val (.bl b)) := rfl
theorem isN_tup : isNW b (.tup xs) Q = Q (.val (.bl b)) := rfl
theorem isN_lst : isNW b (.lst xs) Q = Q (.val (.bl b)) := rfl
theorem isN_dct : isNW b (.dct ks vs) Q = Q (.val (.bl b)) := rfl
theorem len_lst : lenW (.lst x) Q = Q (.val (.int x.length)) := rfl
theorem len_tup : lenW (.tup x) Q = Q (.val (.int x.length)) := rfl
theorem len_frl : lenW (.frl x) Q = Q (.val (.int x.length)) := rfl
theorem len_str : lenW (.str x) Q = Q (.val (.int x.length)) := rfl
theorem toInt_i : toIntW (.int i) Q = Q (.val (.int i)) := rfl
theorem toInt_b : toIntW (.bl b) Q = Q (.val (.int (if b then 1 else 0))) := rfl
theorem toList_l : toListW (.lst xs) Q = Q (.tmp (.lst xs)) := rfl
theorem toList_t : toListW (.tup xs) Q = Q (.tmp (.lst xs)) := rfl
theorem toTup_l : toTupW (.lst xs) Q = Q (.val (.tup xs)) := rfl
theorem toTup_t : toTupW (.tup xs) Q = Q (.val (.tup xs)) := rfl
theorem rev_l : revW (.lst xs) Q = Q (.tmp (.lst xs.reverse)) := rfl
theorem rev_t : revW (.tup xs) Q = Q (.val (.tup xs.reverse)) := rfl
theorem lrng_ : lrngW (.int j) Q = (-(2 ^ 62) ≤ j ∧ j ≤ 1000000 ∧ Q (.tmp (.lst ((List.range j.toNat).map fun (i : Nat) => D.int ((0 : Int) + i))))) := rfl
def kIx (Q : RK) : Option D → Prop
  | some d => Q (.val d)
  | none => False
def kIxC (Q : RK) : Option Nat → Prop
  | some c => Q (.val (.str ⟨#[c]⟩))
  | none => False
theorem ix_l : ixW (.lst xs) (.int i) Q = kIx Q (atI xs i) := by
  show (∃ d, atI xs i = some d ∧ Q (.val d)) = _
  unfold kIx
  cases atI xs i <;> simp
theorem ix_t : ixW (.tup xs) (.int i) Q = kIx Q (atI xs i) := by
  show (∃ d, atI xs i = some d ∧ Q (.val d)) = _
  unfold kIx
  cases atI xs i <;> simp
theorem ix_s : ixW (.str x) (.int i) Q = kIxC Q (atI x.cps.toList i) := by
  show (∃ c, atI x.cps.toList i = some c ∧ Q (.val (.str ⟨#[c]⟩))) = _
  unfold kIxC
  cases atI x.cps.toList i <;> simp
theorem kIx_ : kIx Q (some d) = Q (.val d) := rfl
theorem kIxC_ : kIxC Q (some c) = Q (.val (.str ⟨#[c]⟩)) := rfl
theorem slLo_ : slLoW x (.int i) Q = sliceW x (some i) none Q := rfl
theorem slHi_ : slHiW x (.int i) Q = sliceW x none (some i) Q := rfl
theorem sl_l : sliceW (.lst xs) lo hi Q = Q (.tmp (.lst (cutD xs lo hi))) := rfl
theorem sl_t : sliceW (.tup xs) lo hi Q = Q (.val (.tup (cutD xs lo hi))) := rfl
theorem sl_s : sliceW (.str z) lo hi Q = Q (.val (.str (cutS z lo hi))) := rfl
theorem mtTy_l : mtTy o (some (.lst xs)) = (o ≠ .join ∧ o ≠ .indexT) := rfl
theorem mtTy_t : mtTy o (some (.tup xs)) = (o = .indexT) := rfl
theorem mtTy_s : mtTy o (some (.str x)) = (o = .join) := rfl
theorem isi_non_int : isiD (.non) ["int"] = false := rfl
theorem isi_bl_int : isiD (.bl x) ["int"] = true := rfl
theorem isi_int_int : isiD (.int x) ["int"] = true := rfl
theorem isi_str_int : isiD (.str x) ["int"] = false := rfl
theorem isi_tup_int : isiD (.tup x) ["int"] = false := rfl
theorem isi_lst_int : isiD (.lst x) ["int"] = false := rfl
theorem isi_dct_int : isiD (.dct x y) ["int"] = false := rfl
theorem isi_non_bool : isiD (.non) ["bool"] = false := rfl
theorem isi_bl_bool : isiD (.bl x) ["bool"] = true := rfl
theorem isi_int_bool : isiD (.int x) ["bool"] = false := rfl
theorem isi_str_bool : isiD (.str x) ["bool"] = false := rfl
theorem isi_tup_bool : isiD (.tup x) ["bool"] = false := rfl
theorem isi_lst_bool : isiD (.lst x) ["bool"] = false := rfl
theorem isi_dct_bool : isiD (.dct x y) ["bool"] = false := rfl
theorem isi_non_str : isiD (.non) ["str"] = false := rfl
theorem isi_bl_str : isiD (.bl x) ["str"] = false := rfl
theorem isi_int_str : isiD (.int x) ["str"] = false := rfl
theorem isi_str_str : isiD (.str x) ["str"] = true := rfl
theorem isi_tup_str : isiD (.tup x) ["str"] = false := rfl
theorem isi_lst_str : isiD (.lst x) ["str"] = false := rfl
theorem isi_dct_str : isiD (.dct x y) ["str"] = false := rfl
theorem isi_non_tuple : isiD (.non) ["tuple"] = false := rfl
theorem isi_bl_tuple : isiD (.bl x) ["tuple"] = false := rfl
theorem isi_int_tuple : isiD (.int x) ["tuple"] = false := rfl
theorem isi_str_tuple : isiD (.str x) ["tuple"] = false := rfl
theorem isi_tup_tuple : isiD (.tup x) ["tuple"] = true := rfl
theorem isi_lst_tuple : isiD (.lst x) ["tuple"] = false := rfl
theorem isi_dct_tuple : isiD (.dct x y) ["tuple"] = false := rfl
theorem isi_non_list : isiD (.non) ["list"] = false := rfl
theorem isi_bl_list : isiD (.bl x) ["list"] = false := rfl
theorem isi_int_list : isiD (.int x) ["list"] = false := rfl
theorem isi_str_list : isiD (.str x) ["list"] = false := rfl
theorem isi_tup_list : isiD (.tup x) ["list"] = false := rfl
theorem isi_lst_list : isiD (.lst x) ["list"] = true := rfl
theorem isi_dct_list : isiD (.dct x y) ["list"] = false := rfl
theorem isi_non_tuplelist : isiD (.non) ["tuple", "list"] = false := rfl
theorem isi_bl_tuplelist : isiD (.bl x) ["tuple", "list"] = false := rfl
theorem isi_int_tuplelist : isiD (.int x) ["tuple", "list"] = false := rfl
theorem isi_str_tuplelist : isiD (.str x) ["tuple", "list"] = false := rfl
theorem isi_tup_tuplelist : isiD (.tup x) ["tuple", "list"] = true := rfl
theorem isi_lst_tuplelist : isiD (.lst x) ["tuple", "list"] = true := rfl
theorem isi_dct_tuplelist : isiD (.dct x y) ["tuple", "list"] = false := rfl
theorem isi_non_intstr : isiD (.non) ["int", "str"] = false := rfl
theorem isi_bl_intstr : isiD (.bl x) ["int", "str"] = true := rfl
theorem isi_int_intstr : isiD (.int x) ["int", "str"] = true := rfl
theorem isi_str_intstr : isiD (.str x) ["int", "str"] = true := rfl
theorem isi_tup_intstr : isiD (.tup x) ["int", "str"] = false := rfl
theorem isi_lst_intstr : isiD (.lst x) ["int", "str"] = false := rfl
theorem isi_dct_intstr : isiD (.dct x y) ["int", "str"] = false := rfl
/-! tests -/
theorem wT_k : wT C (.k d) fr Q = kTruB Q fr (truthy d) := by
  unfold wT kTruB
  rfl
theorem wT_v : wT C (.v i) fr Q = kTru Q fr (kDb fr[i]?) := by
  rw [← deref_b]
  unfold wT kTru kTruB
  rfl
theorem wT_op : wT C (.op o es) fr Q = wEs C es fr (kOp o (kTr Q)) := by
  unfold wT
  rfl
theorem wT_call : wT C (.call f es) fr Q = wEs C es fr (kCall C f (kTr Q)) := by
  rw [← wE_call]
  unfold wT wE
  rfl
theorem wT_and : wT C (.and a b) fr Q = wT C a fr (kTAnd C b Q) := rfl
theorem wT_or : wT C (.or a b) fr Q = wT C a fr (kTOr C b Q) := rfl
theorem wT_not : wT C (.not a) fr Q = wT C a fr (kTNot Q) := rfl
theorem kTAnd_ : kTAnd C b Q c fr = if c = true then wT C b fr Q else Q false fr := rfl
theorem kTOr_ : kTOr C b Q c fr = if c = true then Q true fr else wT C b fr Q := rfl
theorem kTNot_ : kTNot Q c fr = Q (!c) fr := rfl
theorem kTr_v : kTr Q (.val d) fr = kTru Q fr (deref fr (.val d)) := rfl
theorem kTr_t : kTr Q (.tmp d) fr = kTru Q fr (deref fr (.tmp d)) := rfl
theorem kTr_b : kTr Q (.bor i) fr = kTru Q fr (deref fr (.bor i)) := rfl
theorem kTru_ : kTru Q fr (some d) = kTruB Q fr (truthy d) := rfl
theorem kTruB_ : kTruB Q fr (some b) = Q b fr := rfl
theorem tr_non : truthy .non = some false := rfl
theorem tr_bl : truthy (.bl b) = some b := rfl
theorem tr_int : truthy (.int i) = some (i != 0) := rfl
theorem tr_str : truthy (.str x) = some (x.length != 0) := rfl
theorem tr_tup : truthy (.tup xs) = some (!xs.isEmpty) := rfl
theorem tr_lst : truthy (.lst xs) = some (!xs.isEmpty) := rfl
/-! sources -/
theorem wI_seq : wI C (.seq a) fr Q = wE C a fr (kSeq Q) := rfl
theorem kSeq_v : kSeq Q (.val d) fr = Q (.seq (.val d)) fr := rfl
theorem kSeq_t : kSeq Q (.tmp d) fr = Q (.seq (.tmp d)) fr := rfl
theorem kSeq_b : kSeq Q (.bor i) fr = Q (.seq (.bor i)) fr := rfl
theorem wI_enum : wI C (.enum a) fr Q = wE C a fr (kEnum Q) := rfl
theorem kEnum_v : kEnum Q (.val d) fr = Q (.enum (.val d)) fr := rfl
theorem kEnum_t : kEnum Q (.tmp d) fr = Q (.enum (.tmp d)) fr := rfl
theorem kEnum_b : kEnum Q (.bor i) fr = Q (.enum (.bor i)) fr := rfl
theorem wI_rng1 : wI C (.rng1 a) fr Q = wE C a fr (kR1 Q) := by
  unfold wI kR1 kR1i
  rfl
theorem kR1_v : kR1 Q (.val d) fr = kR1i Q fr (deref fr (.val d)) := rfl
theorem kR1_t : kR1 Q (.tmp d) fr = kR1i Q fr (deref fr (.tmp d)) := rfl
theorem kR1_b : kR1 Q (.bor i) fr = kR1i Q fr (deref fr (.bor i)) := rfl
theorem kR1i_ : kR1i Q fr (some (.int j)) = ((-(2 ^ 62) ≤ j ∧ j < 2 ^ 62) ∧ Q (.rng 0 j.toNat) fr) := rfl
theorem wI_rng2 : wI C (.rng2 a b) fr Q = wE C a fr (kR2 C b Q) := by
  unfold wI kR2 kR2b kR2i
  rfl
theorem kR2_v : kR2 C b Q (.val d) fr = wE C b fr (kR2b Q (.val d)) := rfl
theorem kR2_t : kR2 C b Q (.tmp d) fr = wE C b fr (kR2b Q (.tmp d)) := rfl
theorem kR2_b : kR2 C b Q (.bor i) fr = wE C b fr (kR2b Q (.bor i)) := rfl
theorem kR2b_v : kR2b Q r (.val d) fr = kR2i Q fr (deref fr r) (deref fr (.val d)) := rfl
theorem kR2b_t : kR2b Q r (.tmp d) fr = kR2i Q fr (deref fr r) (deref fr (.tmp d)) := rfl
theorem kR2b_b : kR2b Q r (.bor i) fr = kR2i Q fr (deref fr r) (deref fr (.bor i)) := rfl
theorem kR2i_ : kR2i Q fr (some (.int i)) (some (.int j)) = ((-(2 ^ 62) ≤ i ∧ i < 2 ^ 62 ∧ -(2 ^ 62) ≤ j ∧ j < 2 ^ 62) ∧ Q (.rng i (j - i).toNat) fr) := rfl
theorem wI_zip : wI C (.zip a b) fr Q = wE C a fr (kZip C b Q) := rfl
theorem kZip_v : kZip C b Q (.val d) fr = wE C b fr (kZip2 Q (.val d)) := rfl
theorem kZip_t : kZip C b Q (.tmp d) fr = wE C b fr (kZip2 Q (.tmp d)) := rfl
theorem kZip_b : kZip C b Q (.bor i) fr = wE C b fr (kZip2 Q (.bor i)) := rfl
theorem kZip2_v : kZip2 Q r (.val d) fr = Q (.zip r (.val d)) fr := rfl
theorem kZip2_t : kZip2 Q r (.tmp d) fr = Q (.zip r (.tmp d)) fr := rfl
theorem kZip2_b : kZip2 Q r (.bor i) fr = Q (.zip r (.bor i)) fr := rfl
def kM1 : Option D → Option (List D)
  | some d => some [d]
  | none => none
def kM2 : Option D → Option D → Option (List D)
  | some d, some e => some [d, e]
  | _, _ => none
theorem sd_seq : srcDs fr (.seq r) = kM1 (deref fr r) := by
  show ((deref fr r).map fun d => [d]) = _
  cases deref fr r <;> rfl
theorem sd_enum : srcDs fr (.enum r) = kM1 (deref fr r) := by
  show ((deref fr r).map fun d => [d]) = _
  cases deref fr r <;> rfl
theorem sd_rng : srcDs fr (.rng lo n) = some [] := rfl
theorem sd_zip : srcDs fr (.zip a b) = kM2 (deref fr a) (deref fr b) := by
  show ((deref fr a).bind fun d => (deref fr b).map fun e => [d, e]) = _
  cases deref fr a <;> cases deref fr b <;> rfl
theorem kM1_ : kM1 (some d) = some [d] := rfl
theorem kM2_ : kM2 (some d) (some e) = some [d, e] := rfl
theorem it_seq_n : itemsT (.n k) (.seq r) [d] = seqItems d := rfl
theorem it_rng_n : itemsT (.n k) (.rng lo n) [] = some (rngD lo n) := rfl
theorem it_seq_t : itemsT (.t is) (.seq r) [d] = seqItems d := rfl
theorem it_rng_t : itemsT (.t is) (.rng lo n) [] = some (rngD lo n) := rfl
theorem it_enl_t : itemsT (.t is) (.enum r) [.lst xs] = some (enumD 0 xs) := rfl
theorem it_ent_t : itemsT (.t is) (.enum r) [.tup xs] = some (enumD 0 xs) := rfl
theorem it_zpl_t : itemsT (.t is) (.zip a b) [.lst xs, .lst ys] = some (zipD xs ys) := rfl
theorem it_zpt_t : itemsT (.t is) (.zip a b) [.tup xs, .tup ys] = some (zipD xs ys) := rfl
theorem it_seq_u : itemsT (.t2 k is) (.seq r) [d] = seqItems d := rfl
theorem it_rng_u : itemsT (.t2 k is) (.rng lo n) [] = some (rngD lo n) := rfl
theorem it_enl_u : itemsT (.t2 k is) (.enum r) [.lst xs] = some (enumD 0 xs) := rfl
theorem it_ent_u : itemsT (.t2 k is) (.enum r) [.tup xs] = some (enumD 0 xs) := rfl
theorem it_zpl_u : itemsT (.t2 k is) (.zip a b) [.lst xs, .lst ys] = some (zipD xs ys) := rfl
theorem it_zpt_u : itemsT (.t2 k is) (.zip a b) [.tup xs, .tup ys] = some (zipD xs ys) := rfl
theorem sqi_l : seqItems (.lst xs) = some xs := rfl
theorem sqi_t : seqItems (.tup xs) = some xs := rfl
theorem sqi_f : seqItems (.frl xs) = some xs := rfl
theorem fz_seq : frzSrc fr (.seq r) = kFq (fun d => .seq (.val d)) (frz fr r) := by
  show ((frz fr r).map fun p => (Src.seq (.val p.1), p.2)) = _
  cases frz fr r <;> rfl
theorem fz_enum : frzSrc fr (.enum r) = kFq (fun d => .enum (.val d)) (frz fr r) := by
  show ((frz fr r).map fun p => (Src.enum (.val p.1), p.2)) = _
  cases frz fr r <;> rfl
theorem fz_rng : frzSrc fr (.rng lo n) = some (.rng lo n, fr) := rfl
theorem fz_zvv : frzSrc fr (.zip (.val a) (.val b)) = some (.zip (.val a) (.val b), fr) := rfl
theorem kFq_ : kFq q (some (d, fr)) = some (q d, fr) := rfl
theorem frz_v : frz fr (.val d) = some (d, fr) := rfl
theorem frz_t : frz fr (.tmp d) = some (d, fr) := rfl
theorem kFb_v : kFb i fr (some (.val d)) = some (d, fr) := rfl
theorem kFb_o : kFb i fr (some (.own false d)) = some (d, fr.set i (.val d)) := rfl
/-! statements -/
theorem wSs_n : wSs C .nil fr E = E.nx fr := rfl
theorem wSs_c : wSs C (.cons a r) fr E = wS C a fr (seqE C r E) := rfl
theorem wSs_g : wSs C (.fgt is r) fr E = wSs C r (fgtF fr is) E := rfl
theorem wSs_z : wSs C (.frz i r) fr E = kFrz C r E i fr fr[i]? := by
  unfold wSs kFrz
  rfl
theorem kFrz_v : kFrz C r E i fr (some (.val d)) = wSs C r fr E := rfl
theorem kFrz_o : kFrz C r E i fr (some (.own false d)) = wSs C r (fr.set i (.val d)) E := rfl
theorem seqE_nx : (seqE C r E).nx fr = wSs C r fr E := rfl
theorem seqE_rt : (seqE C r E).rt = E.rt := rfl
theorem seqE_bk : (seqE C r E).bk = E.bk := rfl
theorem seqE_ct : (seqE C r E).ct = E.ct := rfl
theorem topE_nx : (topE np Q).nx fr = Q (.val .non) (outF np fr) := rfl
theorem topE_rt : (topE np Q).rt r fr = Q r (outF np fr) := rfl
theorem outF_ : outF np fr = (fr.take np).map nrm := rfl
theorem nrm_v : nrm (.val d) = .none := rfl
theorem nrm_n : nrm .none = .none := rfl
theorem nrm_o : nrm (.own b d) = .own b d := rfl
theorem fgtF_n : fgtF fr [] = fr := rfl
theorem fgtF_c : fgtF fr (i :: is) = fgtF (fg1 fr i) is := rfl
theorem fg1_z : fg1 (s :: r) 0 = fgS s :: r := rfl
theorem fg1_s : fg1 (s :: r) (i + 1) = s :: fg1 r i := rfl
theorem fgS_n : fgS .none = .none := rfl
theorem fgS_v : fgS (.val d) = .none := rfl
theorem fgS_o : fgS (.own false d) = .none := rfl
theorem fgS_b : fgS (.own true d) = .own true d := rfl
theorem wS_set : wS C (.set t e) fr E = wE C e fr (kSet t E) := rfl
theorem kSet_tn : kSet (.n i) E (.tmp d) fr = kPutE E (putSl fr i (.own false d)) := by
  rw [← ex_put]
  rfl
theorem kSet_tt : kSet (.t is) E (.tmp d) fr = kPutE E (asgT fr (.t is) d) := by
  rw [← ex_put]
  rfl
theorem kSet_tu : kSet (.t2 i is) E (.tmp d) fr = kPutE E (asgT fr (.t2 i is) d) := by
  rw [← ex_put]
  rfl
theorem kSet_v : kSet t E (.val d) fr = kPutE E (asgT fr t d) := by
  rw [← ex_put]
  rfl
theorem kSet_b : kSet t E (.bor i) fr = kSetB t E i fr fr[i]? := by
  show (match frz fr (.bor i) with
      | some (d, fr2) => ∃ fr3, asgT fr2 t d = some fr3 ∧ E.nx fr3
      | none => False) = _
  rw [frz_b]
  unfold kFb kSetB
  cases fr[i]? with
  | none => rfl
  | some s => cases s with
    | none => rfl
    | val d => exact ex_put
    | own b d => cases b with
      | true => rfl
      | false => exact ex_put
theorem kSetB_v : kSetB t E i fr (some (.val d)) = kPutE E (asgT fr t d) := rfl
theorem kSetB_o : kSetB t E i fr (some (.own false d)) = kPutE E (asgT (fr.set i (.val d)) t d) := rfl
theorem kPutE_ : kPutE E (some fr) = E.nx fr := rfl
theorem asgT_n : asgT fr (.n i) d = putSl fr i (.val d) := rfl
theorem asgT_t : asgT fr (.t is) (.tup ds) = asgAll fr is ds := rfl
theorem asgT_u : asgT fr (.t2 i is) (.tup [d, .tup ds]) = kA2 (putSl fr i (.val d)) is ds := rfl
theorem asgAll_n : asgAll fr [] [] = some fr := rfl
theorem asgAll_c : asgAll fr (i :: is) (d :: ds) = kA2 (putSl fr i (.val d)) is ds := rfl
theorem kA2_ : kA2 (some fr) is ds = asgAll fr is ds := rfl
theorem putSl_ : putSl fr i s = kPut fr i s fr[i]? := by
  show (match fr[i]? with
    | some (.own true _) => none
    | some _ => some (fr.set i s)
    | none => none) = _
  cases fr[i]? with
  | none => rfl
  | some s => cases s with
    | none => rfl
    | val d => rfl
    | own b d => cases b <;> rfl
theorem kPut_n : kPut fr i s (some .none) = some (fr.set i s) := rfl
theorem kPut_v : kPut fr i s (some (.val d)) = some (fr.set i s) := rfl
theorem kPut_o : kPut fr i s (some (.own false d)) = some (fr.set i s) := rfl
theorem wS_setLc : wS C (.setLc i e) fr E = wE C e fr (kSetLc i E) := rfl
theorem kSetLc_ : kSetLc i E (.tmp d) fr = kPutE E (putSl fr i (.own false d)) := by
  rw [← ex_put]
  rfl
theorem wS_setIx : wS C (.setIx o i e) fr E = wE C e fr (kX1 C o i E) := rfl
theorem kX1_v : kX1 C o i E (.val d) fr = wE C o fr (kX2 C i E d) := rfl
theorem kX1_t : kX1 C o i E (.tmp d) fr = wE C o fr (kX2 C i E d) := rfl
theorem kX1_b : kX1 C o i E (.bor k) fr = kX1B C o i E k fr fr[k]? := by
  unfold kX1
  rw [frz_b]
  unfold kFb kX1B
  cases fr[k]? with
  | none => rfl
  | some s => cases s with
    | none => rfl
    | val d => rfl
    | own b d => cases b <;> rfl
theorem kX1B_v : kX1B C o i E k fr (some (.val d)) = wE C o fr (kX2 C i E d) := rfl
theorem kX1B_o : kX1B C o i E k fr (some (.own false d)) = wE C o (fr.set k (.val d)) (kX2 C i E d) := rfl
theorem kX2_ : kX2 C i E d (.bor k) fr = wE C i fr (kX3 E d k) := by
  refine congrArg (wE C i fr) (show (fun ri fr4 => match (Rf.bor k), deref fr4 ri with
      | .bor k, some (.int j) => match fr4[k]? with
        | some (.own b (.lst xs)) => ∃ n, L2.ixN xs.length j = some n ∧ E.nx (fr4.set k (.own b (.lst (xs.set n d))))
        | _ => False
      | _, _ => False) = kX3 E d k from ?_)
  funext ri fr4
  show _ = kX4 E d k fr4 (deref fr4 ri) fr4[k]?
  cases deref fr4 ri with
  | none => cases fr4[k]? <;> rfl
  | some x =>
    have key : ∀ j : Int, (match fr4[k]? with
        | some (.own b (.lst xs)) => ∃ n, L2.ixN xs.length j = some n ∧ E.nx (fr4.set k (.own b (.lst (xs.set n d))))
        | _ => False) = kX4 E d k fr4 (some (.int j)) fr4[k]? := fun j => by
      cases fr4[k]? with
      | none => rfl
      | some s =>
        cases s with
        | none => rfl
        | val y => rfl
        | own b y =>
          cases y with
          | lst xs =>
            show (∃ n, L2.ixN xs.length j = some n ∧ _) = kX5 E d k fr4 b xs (L2.ixN xs.length j)
            cases L2.ixN xs.length j <;> simp [kX5]
          | _ => rfl
    cases x with
    | int j => exact key j
    | _ => cases fr4[k]? <;> rfl
theorem kX3_v : kX3 E d0 k (.val d) fr = kX4 E d0 k fr (deref fr (.val d)) fr[k]? := rfl
theorem kX3_t : kX3 E d0 k (.tmp d) fr = kX4 E d0 k fr (deref fr (.tmp d)) fr[k]? := rfl
theorem kX3_b : kX3 E d0 k (.bor i) fr = kX4 E d0 k fr (deref fr (.bor i)) fr[k]? := rfl
theorem kX4_ : kX4 E d k fr (some (.int j)) (some (.own b (.lst xs))) = kX5 E d k fr b xs (L2.ixN xs.length j) := rfl
theorem kX5_ : kX5 E d k fr b xs (some n) = E.nx (fr.set k (.own b (.lst (xs.set n d)))) := rfl
theorem wS_ex : wS C (.ex e) fr E = wE C e fr (kEx E) := rfl
theorem kEx_v : kEx E (.val d) fr = E.nx fr := rfl
theorem kEx_t : kEx E (.tmp d) fr = E.nx fr := rfl
theorem kEx_b : kEx E (.bor i) fr = E.nx fr := rfl
theorem wS_ret : wS C (.ret e) fr E = wE C e fr (kRet E) := rfl
theorem kRet_v : kRet E (.val d) fr = E.rt (.val d) fr := rfl
theorem kRet_t : kRet E (.tmp d) fr = E.rt (.tmp d) fr := rfl
theorem kRet_b : kRet E (.bor i) fr = kRetB E i fr fr[i]? := by
  unfold kRet kRetB
  rfl
theorem kRetB_v : kRetB E i fr (some (.val d)) = E.rt (.val d) fr := rfl
theorem kRetB_o : kRetB E i fr (some (.own false d)) = E.rt (.tmp d) (fr.set i .none) := rfl
theorem wS_retN : wS C .retN fr E = E.rt (.val .non) fr := rfl
theorem wS_aug : wS C (.aug i o e) fr E = kAug C i o e E fr fr[i]? := by
  unfold wS kAug kAu kAui
  rfl
theorem kAug_ : kAug C i o e E fr (some (.val (.int x))) = wE C e fr (kAu i o x E) := rfl
theorem kAu_v : kAu k o x E (.val d) fr = kAui k o x E fr (deref fr (.val d)) := rfl
theorem kAu_t : kAu k o x E (.tmp d) fr = kAui k o x E fr (deref fr (.tmp d)) := rfl
theorem kAu_b : kAu k o x E (.bor i) fr = kAui k o x E fr (deref fr (.bor i)) := rfl
theorem kAui_a : kAui i .add x E fr (some (.int y)) = E.nx (fr.set i (.val (.int (x + y)))) := rfl
theorem kAui_s : kAui i .sub x E fr (some (.int y)) = E.nx (fr.set i (.val (.int (x - y)))) := rfl
theorem wS_ite : wS C (.ite c a b) fr E = wT C c fr (kIte C a b E) := rfl
theorem kIte_ : kIte C a b E c fr = if c = true then wSs C a fr E else wSs C b fr E := rfl
theorem wS_for : wS C (.for t it b) fr E = wI C it fr (kFor C t b E) := by
  unfold wS
  congr 1
  funext src fr1
  unfold kFor kForS kForD kForI
  cases frzSrc fr1 src with
  | none => rfl
  | some p =>
    obtain ⟨src2, fr2⟩ := p
    simp only
    cases h1 : srcDs fr2 src2 with
    | none => simp
    | some sv => cases h2 : itemsT t src2 sv <;> simp [h2]
theorem kFor_ : kFor C t b E src fr = kForS C t b E (frzSrc fr src) := rfl
theorem kForS_ : kForS C t b E (some (src, fr)) = kForD C t b E src fr (srcDs fr src) := rfl
theorem kForD_ : kForD C t b E src fr (some sv) = kForI C t b E fr (itemsT t src sv) := rfl
theorem kForI_ : kForI C t b E fr (some xs) = forGo (wSs C b) t xs fr E := rfl
theorem forGo_n : forGo (wSs C b) t [] fr E = E.nx fr := rfl
theorem forGo_c : forGo (wSs C b) t (x :: r) fr E = kForC C b t r E (asgT fr t x) := by
  unfold kForC
  show (∃ fr2, asgT fr t x = some fr2 ∧ _) = _
  cases h : asgT fr t x <;> simp <;> rfl
theorem kForC_ : kForC C b t r E (some fr) = wSs C b fr (loopE C b t r E) := rfl
theorem loopE_nx : (loopE C b t r E).nx fr = forGo (wSs C b) t r fr E := rfl
theorem loopE_ct : (loopE C b t r E).ct fr = forGo (wSs C b) t r fr E := rfl
theorem loopE_bk : (loopE C b t r E).bk = E.nx := rfl
theorem loopE_rt : (loopE C b t r E).rt = E.rt := rfl
theorem wS_fof : wS C (.fof fg t it b) fr E = wI C it fr (kFof C t fg b E) := by
  unfold wS
  congr 1
  funext src fr1
  unfold kFof kFofS kFofD kFofI
  cases frzSrc fr1 src with
  | none => rfl
  | some p =>
    obtain ⟨src2, fr2⟩ := p
    simp only
    cases h1 : srcDs fr2 src2 with
    | none => simp
    | some sv => cases h2 : itemsT t src2 sv <;> simp [h2, ← forGoF_fgt]
theorem kFof_ : kFof C t fg b E src fr = kFofS C t fg b E (frzSrc fr src) := rfl
theorem kFofS_ : kFofS C t fg b E (some (src, fr)) = kFofD C t fg b E src fr (srcDs fr src) := rfl
theorem kFofD_ : kFofD C t fg b E src fr (some sv) = kFofI C t fg b E fr (itemsT t src sv) := rfl
theorem kFofI_ : kFofI C t fg b E fr (some xs) = forGoF (wSs C b) t fg xs (fgtF fr fg) E := rfl
theorem forGoF_n : forGoF (wSs C b) t fg [] fr E = E.nx (fgtF fr fg) := rfl
theorem forGoF_c : forGoF (wSs C b) t fg (x :: r) fr E = kFofC C b t fg r E (asgT (fgtF fr fg) t x) := by
  unfold kFofC
  show (∃ fr2, asgT (fgtF fr fg) t x = some fr2 ∧ _) = _
  cases h : asgT (fgtF fr fg) t x <;> simp <;> rfl
theorem kFofC_ : kFofC C b t fg r E (some fr) = wSs C b fr (loopF C b t fg r E) := rfl
theorem loopF_nx : (loopF C b t fg r E).nx fr = forGoF (wSs C b) t fg r (fgtF fr fg) E := by
  rw [← forGoF_fgt]
  rfl
theorem loopF_ct : (loopF C b t fg r E).ct fr = forGoF (wSs C b) t fg r (fgtF fr fg) E := by
  rw [← forGoF_fgt]
  rfl
theorem loopF_bk : (loopF C b t fg r E).bk fr = E.nx (fgtF fr fg) := rfl
theorem loopF_rt : (loopF C b t fg r E).rt = E.rt := rfl
theorem wS_brk : wS C .brk fr E = E.bk fr := rfl
theorem wS_cnt : wS C .cnt fr E = E.ct fr := rfl
theorem wS_pass : wS C .pass fr E = E.nx fr := rfl
theorem wipe_n : wipeF fr [] = fr := rfl
theorem wipe_c : wipeF fr (i :: is) = (wipeF fr is).set i .none := rfl
theorem rest_n : restF old fr [] = fr := rfl
theorem rest_c : restF old fr (i :: is) = (restF old fr is).set i (old.getD i .none) := rfl
theorem getD_z : List.getD (x :: xs) 0 d = x := rfl
theorem getD_s : List.getD (x :: xs) (n + 1) d = List.getD xs n d := rfl
theorem ownB_n : ownB fr src [] = true := rfl
theorem ownB_c : ownB fr src (i :: ow) = (!isOwn fr i && decide (i < fr.length) && !(srcBors src).contains i && ownB fr src ow) := by
  unfold ownB
  simp
def kIo : Option Sl → Bool
  | some (.own _ _) => true
  | _ => false
theorem isOwn_ : isOwn fr i = kIo fr[i]? := by
  show (match fr[i]? with
    | some (.own _ _) => true
    | _ => false) = _
  cases fr[i]? with
  | none => rfl
  | some s => cases s <;> rfl
theorem kIo_n : kIo (some .none) = false := rfl
theorem kIo_v : kIo (some (.val d)) = false := rfl
theorem kIo_o : kIo (some (.own b d)) = true := rfl
theorem sb_seq : srcBors (.seq r) = rfBor r := rfl
theorem sb_enum : srcBors (.enum r) = rfBor r := rfl
theorem sb_rng : srcBors (.rng lo n) = [] := rfl
theorem sb_zip : srcBors (.zip a b) = rfBor a ++ rfBor b := rfl
theorem rb_v : rfBor (.val d) = [] := rfl
theorem rb_t : rfBor (.tmp d) = [] := rfl
theorem rb_b : rfBor (.bor i) = [i] := rfl
theorem line_ok {n : Nat} (h : n ≤ 1000) : (n ≤ sizeLine) = True := eq_true (Nat.le_of_lt (small1000 h))
theorem line_lt {n : Nat} (h : n ≤ 1000) : (n < sizeLine) = True := eq_true (small1000 h)
end
end QL
set_option maxHeartbeats 1500000
namespace QL
open PySem L2
local macro_rules
  | `(tactic| simp! [$args,*]) => `(tactic| simp only [frz_b, wE_k, wE_v, kV_v, kV_o, wE_fz, kFz_v, kFz_t, kFz_b, kFzB_v, kFzB_o, wEs_n, wEs_c, kCons_v, kCons_t, kCons_b, kPush_, wE_op, kOp_, wE_mt, kMt_v, kMt_t, kMt_b, wE_sl2, kS1_v, kS1_t, kS1_b, kS2_v, kS2_t, kS2_b, kS2i_i, kS3_v, kS3_t, kS3_b, kS3i_i, kRd_v, kRd_t, kRd_b, wE_and, kAnd_v, kAnd_t, kAnd_b, kAndB_, wE_or, kOr_v, kOr_t, kOr_b, kOrB_, wE_not, kNot_v, kNot_t, kNot_b, kNotB_, wE_ife, kIfe_, wE_tup, kTup_, wE_lst, kLst_, wZ_n, wZ_c, kZ_v, kZ_t, kZ_b, kZB_v, kZB_o, kZp_, wE_call, kCall_, kCallS_, kOut_v, kOut_t, kOut_b, kGb_, argSls_n, argSls_c, kSlc_, argSl_v, argSl_t, argSl_b, kAs_v, kAs_o, bors_n, bors_v, bors_t, bors_b, gb_n, gb_v, gb_t, gb_o, kGv_, gb_w, kGw_, wE_lc, kLc_, kLcD_, kLcI_, kLcE_, lcT_, kTu_, wO_n, wO_s, kTc_, kTe_v, kTe_t, kTe_b, kTeB_v, kTeB_o, wE_ssc, kSsc_, kSscD_, kSscI_, sscT_, kTsu_, kTsc_, kTse_v, op_add, op_sub, op_mul, op_fdiv, op_mod, op_pow, op_shl, op_shr, op_neg, op_eq, op_ne, op_lt, op_le, op_gt, op_ge, op_isin, op_notin, op_isN, op_notN, op_len, op_toInt, op_toList, op_toTup, op_sum, op_max1, op_min1, op_any, op_all, op_sorted, op_max2, op_min2, op_ix, op_slAll, op_slLo, op_slHi, op_join, op_dget2, op_setIx, op_sortSet, op_slRev, op_lrng, op_indexL, op_indexT, op_isi, kDer_, derefs_n, derefs_c, kDc_, deref_v, deref_t, deref_b, kDb_v, kDb_o, op_pop, kPop_, kPopL_, op_append, kApp_, op_insert, kIns_, op_reverse, kRev_, rd_add, rd_mul, rd_eq, rd_ne, rd_lt, rd_gt, rd_ix, rd_slLo, rd_slHi, rd_join, rd_indexL, rd_indexT, rd_isN, rd_notN, rd_len, rd_toInt, rd_toList, rd_toTup, rd_any, rd_all, rd_max1, rd_min1, rd_sum, rd_sorted, rd_sortSet, rd_slRev, rd_lrng, rd_sub, rd_fdiv, rd_mod, rd_pow, rd_shl, rd_shr, rd_le, rd_ge, rd_max2, rd_min2, rd_neg, rd_isin, rd_notin, rd_slAll, rd_isi, add_i, add_s, add_l, add_t, mul_i, mul_s, eq_, lt_i, lt_s, gt_i, gt_s, in_l, in_t, isN_non, isN_bl, isN_int, isN_str, isN_tup, isN_lst, isN_dct, len_lst, len_tup, len_frl, len_str, toInt_i, toInt_b, toList_l, toList_t, toTup_l, toTup_t, rev_l, rev_t, lrng_, ix_l, ix_t, ix_s, kIx_, kIxC_, slLo_, slHi_, sl_l, sl_t, sl_s, mtTy_l, mtTy_t, mtTy_s, isi_non_int, isi_bl_int, isi_int_int, isi_str_int, isi_tup_int, isi_lst_int, isi_dct_int, isi_non_bool, isi_bl_bool, isi_int_bool, isi_str_bool, isi_tup_bool, isi_lst_bool, isi_dct_bool, isi_non_str, isi_bl_str, isi_int_str, isi_str_str, isi_tup_str, isi_lst_str, isi_dct_str, isi_non_tuple, isi_bl_tuple, isi_int_tuple, isi_str_tuple, isi_tup_tuple, isi_lst_tuple, isi_dct_tuple, isi_non_list, isi_bl_list, isi_int_list, isi_str_list, isi_tup_list, isi_lst_list, isi_dct_list, isi_non_tuplelist, isi_bl_tuplelist, isi_int_tuplelist, isi_str_tuplelist, isi_tup_tuplelist, isi_lst_tuplelist, isi_dct_tuplelist, isi_non_intstr, isi_bl_intstr, isi_int_intstr, isi_str_intstr, isi_tup_intstr, isi_lst_intstr, isi_dct_intstr, wT_k, wT_v, wT_op, wT_call, wT_and, wT_or, wT_not, kTAnd_, kTOr_, kTNot_, kTr_v, kTr_t, kTr_b, kTru_, kTruB_, tr_non, tr_bl, tr_int, tr_str, tr_tup, tr_lst, wI_seq, kSeq_v, kSeq_t, kSeq_b, wI_enum, kEnum_v, kEnum_t, kEnum_b, wI_rng1, kR1_v, kR1_t, kR1_b, kR1i_, wI_rng2, kR2_v, kR2_t, kR2_b, kR2b_v, kR2b_t, kR2b_b, kR2i_, wI_zip, kZip_v, kZip_t, kZip_b, kZip2_v, kZip2_t, kZip2_b, sd_seq, sd_enum, sd_rng, sd_zip, kM1_, kM2_, it_seq_n, it_rng_n, it_seq_t, it_rng_t, it_enl_t, it_ent_t, it_zpl_t, it_zpt_t, it_seq_u, it_rng_u, it_enl_u, it_ent_u, it_zpl_u, it_zpt_u, sqi_l, sqi_t, sqi_f, fz_seq, fz_enum, fz_rng, fz_zvv, kFq_, frz_v, frz_t, kFb_v, kFb_o, wSs_n, wSs_c, wSs_g, wSs_z, kFrz_v, kFrz_o, seqE_nx, seqE_rt, seqE_bk, seqE_ct, topE_nx, topE_rt, outF_, nrm_v, nrm_n, nrm_o, fgtF_n, fgtF_c, fg1_z, fg1_s, fgS_n, fgS_v, fgS_o, fgS_b, wS_set, kSet_tn, kSet_tt, kSet_tu, kSet_v, kSet_b, kSetB_v, kSetB_o, kPutE_, asgT_n, asgT_t, asgT_u, asgAll_n, asgAll_c, kA2_, putSl_, kPut_n, kPut_v, kPut_o, wS_setLc, kSetLc_, wS_setIx, kX1_v, kX1_t, kX1_b, kX1B_v, kX1B_o, kX2_, kX3_v, kX3_t, kX3_b, kX4_, kX5_, wS_ex, kEx_v, kEx_t, kEx_b, wS_ret, kRet_v, kRet_t, kRet_b, kRetB_v, kRetB_o, wS_retN, wS_aug, kAug_, kAu_v, kAu_t, kAu_b, kAui_a, kAui_s, wS_ite, kIte_, wS_for, kFor_, kForS_, kForD_, kForI_, forGo_n, forGo_c, kForC_, loopE_nx, loopE_ct, loopE_bk, loopE_rt, wS_fof, kFof_, kFofS_, kFofD_, kFofI_, forGoF_n, forGoF_c, kFofC_, loopF_nx, loopF_ct, loopF_bk, loopF_rt, wS_brk, wS_cnt, wS_pass, wipe_n, wipe_c, rest_n, rest_c, getD_z, getD_s, ownB_n, ownB_c, isOwn_, kIo_n, kIo_v, kIo_o, sb_seq, sb_enum, sb_rng, sb_zip, rb_v, rb_t, rb_b, line_ok, line_lt, List.getElem?_cons_zero, List.getElem?_cons_succ, List.getElem?_nil, List.set_cons_zero, List.set_cons_succ, List.take_succ_cons, List.take_zero, List.map_cons, List.map_nil, List.length_cons, List.length_nil, List.length_map, List.nodup_cons, List.nodup_nil, List.not_mem_nil, List.mem_cons, List.mem_singleton, not_false_eq_true, true_and, and_true, and_self, ite_true, ite_false, if_true, if_false, Bool.false_eq_true, Bool.true_eq_false, Bool.not_true, Bool.not_false, Bool.not_not, Bool.and_true, Bool.true_and, Bool.and_false, Bool.false_and, Bool.or_true, Bool.or_false, bne_iff_ne, beq_iff_eq, decide_eq_true_eq, decide_eq_false_iff_not, Bool.not_eq_true', Bool.not_eq_eq_eq_not, List.contains_nil, List.contains_cons, List.cons_append, List.nil_append, List.append_nil, List.replicate_succ, List.replicate_zero, ne_eq, reduceCtorEq, Nat.lt_irrefl, Option.some.injEq, Int.ofNat_eq_natCast, Nat.zero_lt_succ, Nat.add_lt_add_iff_right, Nat.zero_add, decide_true, decide_false, Bool.decide_eq_true, false_or, or_false, Nat.reduceLeDiff, Nat.reduceAdd, Nat.reduceSub, Nat.reduceLT, Nat.reduceEqDiff, Nat.reduceBEq, Nat.reduceMul, Nat.reducePow, Int.reduceLT, Int.reduceLE, Int.reduceNeg, Int.reduceAdd, Int.reduceSub, Int.reduceMul, Int.reducePow, Int.reduceToNat, Int.reduceEq, Int.reduceBEq, Int.reduceNe, reduceIte, decide_not, eq_self, not_true_eq_false, imp_self, Bool.and_self, Bool.or_self, Bool.and_eq_true, Bool.or_eq_true, Bool.or_eq_false_iff, Bool.true_or, Bool.false_or, Bool.false_bne, Bool.bne_false, Bool.bne_true, $args,*])
local macro_rules
  | `(tactic| simp!) => `(tactic| simp only [frz_b, wE_k, wE_v, kV_v, kV_o, wE_fz, kFz_v, kFz_t, kFz_b, kFzB_v, kFzB_o, wEs_n, wEs_c, kCons_v, kCons_t, kCons_b, kPush_, wE_op, kOp_, wE_mt, kMt_v, kMt_t, kMt_b, wE_sl2, kS1_v, kS1_t, kS1_b, kS2_v, kS2_t, kS2_b, kS2i_i, kS3_v, kS3_t, kS3_b, kS3i_i, kRd_v, kRd_t, kRd_b, wE_and, kAnd_v, kAnd_t, kAnd_b, kAndB_, wE_or, kOr_v, kOr_t, kOr_b, kOrB_, wE_not, kNot_v, kNot_t, kNot_b, kNotB_, wE_ife, kIfe_, wE_tup, kTup_, wE_lst, kLst_, wZ_n, wZ_c, kZ_v, kZ_t, kZ_b, kZB_v, kZB_o, kZp_, wE_call, kCall_, kCallS_, kOut_v, kOut_t, kOut_b, kGb_, argSls_n, argSls_c, kSlc_, argSl_v, argSl_t, argSl_b, kAs_v, kAs_o, bors_n, bors_v, bors_t, bors_b, gb_n, gb_v, gb_t, gb_o, kGv_, gb_w, kGw_, wE_lc, kLc_, kLcD_, kLcI_, kLcE_, lcT_, kTu_, wO_n, wO_s, kTc_, kTe_v, kTe_t, kTe_b, kTeB_v, kTeB_o, wE_ssc, kSsc_, kSscD_, kSscI_, sscT_, kTsu_, kTsc_, kTse_v, op_add, op_sub, op_mul, op_fdiv, op_mod, op_pow, op_shl, op_shr, op_neg, op_eq, op_ne, op_lt, op_le, op_gt, op_ge, op_isin, op_notin, op_isN, op_notN, op_len, op_toInt, op_toList, op_toTup, op_sum, op_max1, op_min1, op_any, op_all, op_sorted, op_max2, op_min2, op_ix, op_slAll, op_slLo, op_slHi, op_join, op_dget2, op_setIx, op_sortSet, op_slRev, op_lrng, op_indexL, op_indexT, op_isi, kDer_, derefs_n, derefs_c, kDc_, deref_v, deref_t, deref_b, kDb_v, kDb_o, op_pop, kPop_, kPopL_, op_append, kApp_, op_insert, kIns_, op_reverse, kRev_, rd_add, rd_mul, rd_eq, rd_ne, rd_lt, rd_gt, rd_ix, rd_slLo, rd_slHi, rd_join, rd_indexL, rd_indexT, rd_isN, rd_notN, rd_len, rd_toInt, rd_toList, rd_toTup, rd_any, rd_all, rd_max1, rd_min1, rd_sum, rd_sorted, rd_sortSet, rd_slRev, rd_lrng, rd_sub, rd_fdiv, rd_mod, rd_pow, rd_shl, rd_shr, rd_le, rd_ge, rd_max2, rd_min2, rd_neg, rd_isin, rd_notin, rd_slAll, rd_isi, add_i, add_s, add_l, add_t, mul_i, mul_s, eq_, lt_i, lt_s, gt_i, gt_s, in_l, in_t, isN_non, isN_bl, isN_int, isN_str, isN_tup, isN_lst, isN_dct, len_lst, len_tup, len_frl, len_str, toInt_i, toInt_b, toList_l, toList_t, toTup_l, toTup_t, rev_l, rev_t, lrng_, ix_l, ix_t, ix_s, kIx_, kIxC_, slLo_, slHi_, sl_l, sl_t, sl_s, mtTy_l, mtTy_t, mtTy_s, isi_non_int, isi_bl_int, isi_int_int, isi_str_int, isi_tup_int, isi_lst_int, isi_dct_int, isi_non_bool, isi_bl_bool, isi_int_bool, isi_str_bool, isi_tup_bool, isi_lst_bool, isi_dct_bool, isi_non_str, isi_bl_str, isi_int_str, isi_str_str, isi_tup_str, isi_lst_str, isi_dct_str, isi_non_tuple, isi_bl_tuple, isi_int_tuple, isi_str_tuple, isi_tup_tuple, isi_lst_tuple, isi_dct_tuple, isi_non_list, isi_bl_list, isi_int_list, isi_str_list, isi_tup_list, isi_lst_list, isi_dct_list, isi_non_tuplelist, isi_bl_tuplelist, isi_int_tuplelist, isi_str_tuplelist, isi_tup_tuplelist, isi_lst_tuplelist, isi_dct_tuplelist, isi_non_intstr, isi_bl_intstr, isi_int_intstr, isi_str_intstr, isi_tup_intstr, isi_lst_intstr, isi_dct_intstr, wT_k, wT_v, wT_op, wT_call, wT_and, wT_or, wT_not, kTAnd_, kTOr_, kTNot_, kTr_v, kTr_t, kTr_b, kTru_, kTruB_, tr_non, tr_bl, tr_int, tr_str, tr_tup, tr_lst, wI_seq, kSeq_v, kSeq_t, kSeq_b, wI_enum, kEnum_v, kEnum_t, kEnum_b, wI_rng1, kR1_v, kR1_t, kR1_b, kR1i_, wI_rng2, kR2_v, kR2_t, kR2_b, kR2b_v, kR2b_t, kR2b_b, kR2i_, wI_zip, kZip_v, kZip_t, kZip_b, kZip2_v, kZip2_t, kZip2_b, sd_seq, sd_enum, sd_rng, sd_zip, kM1_, kM2_, it_seq_n, it_rng_n, it_seq_t, it_rng_t, it_enl_t, it_ent_t, it_zpl_t, it_zpt_t, it_seq_u, it_rng_u, it_enl_u, it_ent_u, it_zpl_u, it_zpt_u, sqi_l, sqi_t, sqi_f, fz_seq, fz_enum, fz_rng, fz_zvv, kFq_, frz_v, frz_t, kFb_v, kFb_o, wSs_n, wSs_c, wSs_g, wSs_z, kFrz_v, kFrz_o, seqE_nx, seqE_rt, seqE_bk, seqE_ct, topE_nx, topE_rt, outF_, nrm_v, nrm_n, nrm_o, fgtF_n, fgtF_c, fg1_z, fg1_s, fgS_n, fgS_v, fgS_o, fgS_b, wS_set, kSet_tn, kSet_tt, kSet_tu, kSet_v, kSet_b, kSetB_v, kSetB_o, kPutE_, asgT_n, asgT_t, asgT_u, asgAll_n, asgAll_c, kA2_, putSl_, kPut_n, kPut_v, kPut_o, wS_setLc, kSetLc_, wS_setIx, kX1_v, kX1_t, kX1_b, kX1B_v, kX1B_o, kX2_, kX3_v, kX3_t, kX3_b, kX4_, kX5_, wS_ex, kEx_v, kEx_t, kEx_b, wS_ret, kRet_v, kRet_t, kRet_b, kRetB_v, kRetB_o, wS_retN, wS_aug, kAug_, kAu_v, kAu_t, kAu_b, kAui_a, kAui_s, wS_ite, kIte_, wS_for, kFor_, kForS_, kForD_, kForI_, forGo_n, forGo_c, kForC_, loopE_nx, loopE_ct, loopE_bk, loopE_rt, wS_fof, kFof_, kFofS_, kFofD_, kFofI_, forGoF_n, forGoF_c, kFofC_, loopF_nx, loopF_ct, loopF_bk, loopF_rt, wS_brk, wS_cnt, wS_pass, wipe_n, wipe_c, rest_n, rest_c, getD_z, getD_s, ownB_n, ownB_c, isOwn_, kIo_n, kIo_v, kIo_o, sb_seq, sb_enum, sb_rng, sb_zip, rb_v, rb_t, rb_b, line_ok, line_lt, List.getElem?_cons_zero, List.getElem?_cons_succ, List.getElem?_nil, List.set_cons_zero, List.set_cons_succ, List.take_succ_cons, List.take_zero, List.map_cons, List.map_nil, List.length_cons, List.length_nil, List.length_map, List.nodup_cons, List.nodup_nil, List.not_mem_nil, List.mem_cons, List.mem_singleton, not_false_eq_true, true_and, and_true, and_self, ite_true, ite_false, if_true, if_false, Bool.false_eq_true, Bool.true_eq_false, Bool.not_true, Bool.not_false, Bool.not_not, Bool.and_true, Bool.true_and, Bool.and_false, Bool.false_and, Bool.or_true, Bool.or_false, bne_iff_ne, beq_iff_eq, decide_eq_true_eq, decide_eq_false_iff_not, Bool.not_eq_true', Bool.not_eq_eq_eq_not, List.contains_nil, List.contains_cons, List.cons_append, List.nil_append, List.append_nil, List.replicate_succ, List.replicate_zero, ne_eq, reduceCtorEq, Nat.lt_irrefl, Option.some.injEq, Int.ofNat_eq_natCast, Nat.zero_lt_succ, Nat.add_lt_add_iff_right, Nat.zero_add, decide_true, decide_false, Bool.decide_eq_true, false_or, or_false, Nat.reduceLeDiff, Nat.reduceAdd, Nat.reduceSub, Nat.reduceLT, Nat.reduceEqDiff, Nat.reduceBEq, Nat.reduceMul, Nat.reducePow, Int.reduceLT, Int.reduceLE, Int.reduceNeg, Int.reduceAdd, Int.reduceSub, Int.reduceMul, Int.reducePow, Int.reduceToNat, Int.reduceEq, Int.reduceBEq, Int.reduceNe, reduceIte, decide_not, eq_self, not_true_eq_false, imp_self, Bool.and_self, Bool.or_self, Bool.and_eq_true, Bool.or_eq_true, Bool.or_eq_false_iff, Bool.true_or, Bool.false_or, Bool.false_bne, Bool.bne_false, Bool.bne_true])
/-! NB: tools -/
theorem callW_new {T : List TD} {n i : Nat} {d : TD} (h : T[i]? = some d) {ss : List Sl} {Q : Rf → List Sl → Prop} (hl : ss.length = d.ps.length) (q : wSs (callW (T.map TD.fn) n) d.body (ss ++ List.replicate (d.N.length - d.ps.length) .none) (topE d.ps.length Q)) : callW (T.map TD.fn) (n + 1) i ss Q := by
  unfold callW
  rw [(map_get h).1]
  exact ⟨hl, q⟩
/-- a comprehension that leaves the frame as it is -/
theorem lc_pure {α : Type} {src : Src} {sv : List D} {ow : List Nat} {turn : D → Fr → (Option D → Fr → Prop) → Prop} {R : List D → Fr → Prop} {fr0 : Fr} (enc : α → D) (g : α → Option D) (hs : srcDs fr0 src = some sv) :
    ∀ {ys : List α} {acc : List D}, (∀ y ∈ ys, ∀ K : Option D → Fr → Prop, (∀ fr2, wipeF fr2 ow = fr0 → K (g y) fr2) → turn (enc y) fr0 K) → R (acc ++ ys.filterMap g) fr0 → lcGo src sv ow turn (ys.map enc) acc fr0 R
  | [], acc, _, hR => ⟨hs, by simpa using hR⟩
  | y :: r, acc, h, hR => by
    refine ⟨hs, h y List.mem_cons_self _ fun fr2 e => ?_⟩
    cases q : g y with
    | none =>
      show lcGo _ _ _ _ _ _ (wipeF fr2 ow) _
      rw [e]
      exact lc_pure enc g hs (fun z hz => h z (List.mem_cons_of_mem _ hz)) (by rw [List.filterMap_cons, q] at hR; exact hR)
    | some d =>
      show lcGo _ _ _ _ _ _ (wipeF fr2 ow) _
      rw [e]
      exact lc_pure enc g hs (fun z hz => h z (List.mem_cons_of_mem _ hz)) (by rw [List.filterMap_cons, q] at hR; simpa using hR)
/-- .. that maps -/
theorem lc_map {α : Type} {src : Src} {sv : List D} {ow : List Nat} {turn : D → Fr → (Option D → Fr → Prop) → Prop} {R : List D → Fr → Prop} {fr0 : Fr} (enc : α → D) (g : α → D) (hs : srcDs fr0 src = some sv) {ys : List α}
    (h : ∀ y ∈ ys, ∀ K : Option D → Fr → Prop, (∀ fr2, wipeF fr2 ow = fr0 → K (some (g y)) fr2) → turn (enc y) fr0 K) (hR : R (ys.map g) fr0) : lcGo src sv ow turn (ys.map enc) [] fr0 R :=
  lc_pure enc (fun y => some (g y)) hs h (by rw [List.nil_append, List.filterMap_eq_map']; exact hR)
theorem filterMap_if {α β : Type} {p : α → Bool} {g : α → β} : ∀ {ys : List α}, ys.filterMap (fun y => if p y = true then some (g y) else none) = (ys.filter p).map g
  | [] => rfl
  | y :: r => by
    rw [List.filterMap_cons, List.filter_cons, filterMap_if]
    by_cases h : p y = true
    · simp [h]
    · simp [h]
/-- .. that picks -/
theorem lc_filter {α : Type} {src : Src} {sv : List D} {ow : List Nat} {turn : D → Fr → (Option D → Fr → Prop) → Prop} {R : List D → Fr → Prop} {fr0 : Fr} (enc : α → D) (p : α → Bool) (g : α → D) (hs : srcDs fr0 src = some sv) {ys : List α}
    (h : ∀ y ∈ ys, ∀ K : Option D → Fr → Prop, (∀ fr2, wipeF fr2 ow = fr0 → K (if p y = true then some (g y) else none) fr2) → turn (enc y) fr0 K) (hR : R ((ys.filter p).map g) fr0) : lcGo src sv ow turn (ys.map enc) [] fr0 R :=
  lc_pure enc (fun y => if p y = true then some (g y) else none) hs h (by rw [List.nil_append, filterMap_if]; exact hR)
/-- .. with a state -/
theorem lc_ind {α : Type} {src : Src} {sv : List D} {ow : List Nat} {turn : D → Fr → (Option D → Fr → Prop) → Prop} {R : List D → Fr → Prop} {enc : α → D} (I : List α → List D → Fr → Prop)
    (h : ∀ x r acc fr, I (x :: r) acc fr → srcDs fr src = some sv ∧ ∀ K : Option D → Fr → Prop, (∀ d fr2, I r (acc ++ [d]) (wipeF fr2 ow) → K (some d) fr2) → (∀ fr2, I r acc (wipeF fr2 ow) → K none fr2) → turn (enc x) fr K)
    (he : ∀ acc fr, I [] acc fr → srcDs fr src = some sv ∧ R acc fr) : ∀ {xs : List α} {acc : List D} {fr : Fr}, I xs acc fr → lcGo src sv ow turn (xs.map enc) acc fr R
  | [], acc, fr, i => he acc fr i
  | x :: r, acc, fr, i => by
    obtain ⟨h1, h2⟩ := h x r acc fr i
    exact ⟨h1, h2 _ (fun d fr2 i2 => lc_ind I h he i2) fun fr2 i2 => lc_ind I h he i2⟩
/-- a for that forgets -/
theorem fof_ind {α : Type} {C : WC} {b : CSs} {t : CT} {fg : List Nat} {E : En} {enc : α → D} (I : List α → Fr → Prop)
    (h : ∀ x r fr, I (x :: r) fr → (∀ fr2, I r fr2 → forGoF (wSs C b) t fg (r.map enc) fr2 E) → forGoF (wSs C b) t fg (enc x :: r.map enc) fr E)
    (he : ∀ fr, I [] fr → forGoF (wSs C b) t fg [] fr E) : ∀ {xs : List α} {fr : Fr}, I xs fr → forGoF (wSs C b) t fg (xs.map enc) fr E
  | [], fr, i => he fr i
  | x :: r, fr, i => h x r fr i fun fr2 i2 => fof_ind I h he i2
theorem fof_indD {C : WC} {b : CSs} {t : CT} {fg : List Nat} {E : En} (I : List D → Fr → Prop)
    (h : ∀ x r fr, I (x :: r) fr → (∀ fr2, I r fr2 → forGoF (wSs C b) t fg r fr2 E) → forGoF (wSs C b) t fg (x :: r) fr E)
    (he : ∀ fr, I [] fr → forGoF (wSs C b) t fg [] fr E) : ∀ {xs : List D} {fr : Fr}, I xs fr → forGoF (wSs C b) t fg xs fr E
  | [], fr, i => he fr i
  | x :: r, fr, i => h x r fr i fun fr2 i2 => fof_indD I h he i2
theorem for_indD {C : WC} {b : CSs} {t : CT} {E : En} (I : List D → Fr → Prop)
    (h : ∀ x r fr, I (x :: r) fr → (∀ fr2, I r fr2 → forGo (wSs C b) t r fr2 E) → forGo (wSs C b) t (x :: r) fr E)
    (he : ∀ fr, I [] fr → forGo (wSs C b) t [] fr E) : ∀ {xs : List D} {fr : Fr}, I xs fr → forGo (wSs C b) t xs fr E
  | [], fr, i => he fr i
  | x :: r, fr, i => h x r fr i fun fr2 i2 => for_indD I h he i2
theorem for_ind {α : Type} {C : WC} {b : CSs} {t : CT} {E : En} {enc : α → D} (I : List α → Fr → Prop)
    (h : ∀ x r fr, I (x :: r) fr → (∀ fr2, I r fr2 → forGo (wSs C b) t (r.map enc) fr2 E) → forGo (wSs C b) t (enc x :: r.map enc) fr E)
    (he : ∀ fr, I [] fr → forGo (wSs C b) t [] fr E) : ∀ {xs : List α} {fr : Fr}, I xs fr → forGo (wSs C b) t (xs.map enc) fr E
  | [], fr, i => he fr i
  | x :: r, fr, i => h x r fr i fun fr2 i2 => for_ind I h he i2
/-- a while that forgets -/
def loopW (fg : List Nat) (nx : Fr → Prop) (E : En) : En := { nx := fun fr => nx (fgtF fr fg), ct := fun fr => nx (fgtF fr fg), bk := fun fr => E.nx (fgtF fr fg), rt := E.rt }
@[simp] theorem loopW_nx {fg nx E fr} : (loopW fg nx E).nx fr = nx (fgtF fr fg) := rfl
@[simp] theorem loopW_ct {fg nx E fr} : (loopW fg nx E).ct fr = nx (fgtF fr fg) := rfl
@[simp] theorem loopW_bk {fg nx E fr} : (loopW fg nx E).bk fr = E.nx (fgtF fr fg) := rfl
@[simp] theorem loopW_rt {fg nx E} : (loopW fg nx E).rt = E.rt := rfl
def kWh (C : WC) (b : CSs) (F E : En) : Bool → Fr → Prop := fun c fr => if c = true then wSs C b fr F else E.nx fr
@[simp] theorem kWh_ {C b F E c fr} : kWh C b F E c fr = if c = true then wSs C b fr F else E.nx fr := rfl
theorem whlGoF_fgt {c : Fr → (Bool → Fr → Prop) → Prop} {body : Fr → En → Prop} {fg : List Nat} {n : Nat} {fr : Fr} {E : En} : whlGoF c body fg n fr E = whlGoF c body fg n (fgtF fr fg) E := by
  cases n with
  | zero => rfl
  | succ n => unfold whlGoF; rw [fgtF_idem]
theorem whf_ind {C : WC} {c : CX} {b : CSs} {fg : List Nat} {E : En} (I : Nat → Fr → Prop)
    (h : ∀ m fr, I m fr → ∀ nx : Fr → Prop, (∀ k fr2, k < m → I k fr2 → nx fr2) → wT C c (fgtF fr fg) (kWh C b (loopW fg nx E) E)) {m : Nat} {fr : Fr} (i : I m fr) : wS C (.whf fg c b) fr E := by
  refine ⟨m + 1, ?_⟩
  have key : ∀ (n m : Nat) (fr : Fr), m < n → I m fr → whlGoF (wT C c) (wSs C b) fg n fr E := by
    intro n
    induction n with
    | zero => intro m fr hm; omega
    | succ n ih =>
      intro m fr hm i
      have := h m fr i (fun fr2 => whlGoF (wT C c) (wSs C b) fg n fr2 E) fun k fr2 hk i2 => ih k fr2 (by omega) i2
      have e : loopW fg (fun fr2 => whlGoF (wT C c) (wSs C b) fg n fr2 E) E = { nx := fun fr2 => whlGoF (wT C c) (wSs C b) fg n fr2 E, ct := fun fr2 => whlGoF (wT C c) (wSs C b) fg n fr2 E, bk := fun fr2 => E.nx (fgtF fr2 fg), rt := E.rt } := by
        unfold loopW
        simp only [← whlGoF_fgt]
      rw [e] at this
      exact this
  exact key (m + 1) m fr (Nat.lt_succ_self m) i
theorem whl_ind {C : WC} {c : CX} {b : CSs} {E : En} (I : Nat → Fr → Prop)
    (h : ∀ m fr, I m fr → ∀ nx : Fr → Prop, (∀ k fr2, k < m → I k fr2 → nx fr2) → wT C c fr (kWh C b (loopW [] nx E) E)) {m : Nat} {fr : Fr} (i : I m fr) : wS C (.whl c b) fr E :=
  whl_inv (c := wT C c) (body := wSs C b) I (fun m fr i nx hnx => h m fr i nx hnx) i
theorem enumD_zip {α : Type} (f : α → D) : ∀ {xs : List α} {k : Nat}, enumD k (xs.map f) = (xs.zipIdx k).map fun p => D.tup [.int (p.2 : Nat), f p.1]
  | [], k => rfl
  | x :: r, k => by
    show D.tup [.int k, f x] :: enumD (k + 1) (r.map f) = _
    rw [enumD_zip, List.zipIdx_cons]
    rfl
theorem zipD_map {α β : Type} (f : α → D) (g : β → D) : ∀ {xs : List α} {ys : List β}, zipD (xs.map f) (ys.map g) = (xs.zip ys).map fun p => D.tup [f p.1, g p.2]
  | [], _ => by simp [zipD]
  | x :: r, [] => by simp [zipD]
  | x :: r, y :: s => by simp [zipD, zipD_map]
theorem rngD_map {lo : Int} {n : Nat} : rngD lo n = (List.range n).map fun (i : Nat) => D.int (lo + i) := rfl
theorem rng0_map {n : Nat} : rngD 0 n = (List.range n).map fun (i : Nat) => D.int i := by
  rw [rngD_map]
  simp
theorem atI_some {α : Type} {xs : List α} {v : Int} {x : α} (h0 : 0 ≤ v) (e : xs[v.toNat]? = some x) : atI xs v = some x := by
  have := atI_nat e
  rwa [show ((v.toNat : Nat) : Int) = v by omega] at this
end QL
set_option maxHeartbeats 0
namespace QL
open PySem L2
def b_common : CSs := (.cons (.ret (.op .toTup (.cons (.lc [2] (.n 2) (.seq (.v 0)) (.some (.op .isin (.cons (.v 2) (.cons (.v 1) .nil)))) (.v 2)) .nil))) .nil)
def b_next_gain (c_is_within c_without : Nat) : CSs := (.cons (.fof [2, 3, 4, 5] (.t2 2 [3, 4]) (.enum (.v 0)) (.cons (.set (.n 5) (.fz (.call c_without (.cons (.fz (.v 4)) (.cons (.fz (.v 1)) .nil))))) (.cons (.ite (.and (.op .gt (.cons (.op .len (.cons (.v 5) .nil)) (.cons (.k (.int 0)) .nil))) (.call c_is_within (.cons (.fz (.v 3)) (.cons (.fz (.v 1)) .nil)))) (.cons (.ret (.tup (.cons (.v 2) (.cons (.v 5) .nil)))) .nil) .nil) .nil))) (.cons (.ret (.k .non)) .nil))
def b_gains (c_next_gain c_united : Nat) : CSs := (.cons (.set (.n 2) (.v 1)) (.cons (.set (.n 3) (.lst .nil)) (.cons (.set (.n 4) (.fz (.call c_next_gain (.cons (.fz (.v 0)) (.cons (.fz (.v 2)) .nil))))) (.cons (.whl (.op .notN (.cons (.v 4) .nil)) (.cons (.ex (.mt .append (.v 3) (.cons (.fz (.v 4)) .nil))) (.cons (.set (.n 2) (.fz (.call c_united (.cons (.fz (.v 2)) (.cons (.fz (.op .ix (.cons (.v 4) (.cons (.k (.int 1)) .nil)))) .nil))))) (.cons (.set (.n 4) (.fz (.call c_next_gain (.cons (.fz (.v 0)) (.cons (.fz (.v 2)) .nil))))) .nil)))) (.cons (.ret (.v 3)) .nil)))))
def b_lines_for (c_gains c_common c_without c_united c_follows_from : Nat) : CSs := (.cons (.ite (.not (.call c_follows_from (.cons (.fz (.v 0)) (.cons (.fz (.v 1)) (.cons (.fz (.v 2)) .nil))))) (.cons (.ret (.k .non)) .nil) .nil) (.cons (.set (.t [3, 4]) (.v 2)) (.cons (.set (.n 5) (.fz (.call c_without (.cons (.fz (.v 4)) (.cons (.fz (.v 3)) .nil))))) (.cons (.set (.n 6) (.lst .nil)) (.cons (.fof [7, 8] (.t [7, 8]) (.seq (.op .slRev (.cons (.call c_gains (.cons (.fz (.v 1)) (.cons (.fz (.v 3)) .nil))) .nil))) (.cons (.ite (.op .gt (.cons (.op .len (.cons (.call c_common (.cons (.fz (.v 8)) (.cons (.fz (.v 5)) .nil))) .nil)) (.cons (.k (.int 0)) .nil))) (.cons (.ex (.mt .append (.v 6) (.cons (.fz (.v 7)) .nil))) (.cons (.set (.n 5) (.fz (.call c_united (.cons (.fz (.v 5)) (.cons (.fz (.call c_without (.cons (.fz (.op .ix (.cons (.op .ix (.cons (.v 1) (.cons (.v 7) .nil))) (.cons (.k (.int 0)) .nil)))) (.cons (.fz (.v 3)) .nil)))) .nil))))) .nil)) .nil) .nil)) (.cons (.ret (.op .toTup (.cons (.op .slRev (.cons (.v 6) .nil)) .nil))) .nil))))))
def b_judge_lines (c_is_within c_united : Nat) : CSs := (.cons (.set (.t [4, 5]) (.v 2)) (.cons (.fof [6, 7, 8] (.n 6) (.seq (.v 3)) (.cons (.ite (.or (.not (.op (.isi ["int"] true) (.cons (.v 6) .nil))) (.or (.op .lt (.cons (.v 6) (.cons (.k (.int 0)) .nil))) (.op .ge (.cons (.v 6) (.cons (.op .len (.cons (.v 1) .nil)) .nil))))) (.cons (.ret (.k (.bl false))) .nil) .nil) (.cons (.set (.t [7, 8]) (.op .ix (.cons (.v 1) (.cons (.v 6) .nil)))) (.cons (.ite (.not (.call c_is_within (.cons (.fz (.v 7)) (.cons (.fz (.v 4)) .nil)))) (.cons (.ret (.k (.bl false))) .nil) .nil) (.cons (.set (.n 4) (.fz (.call c_united (.cons (.fz (.v 4)) (.cons (.fz (.v 8)) .nil))))) .nil))))) (.cons (.ret (.call c_is_within (.cons (.fz (.v 5)) (.cons (.fz (.v 4)) .nil)))) .nil)))
def b_law_are_lines (c__law_within : Nat) : CSs := (.cons (.ite (.not (.op (.isi ["tuple"] true) (.cons (.v 2) .nil))) (.cons (.ret (.k (.bl false))) .nil) .nil) (.cons (.set (.n 3) (.fz (.op .toList (.cons (.op .ix (.cons (.v 1) (.cons (.k (.int 0)) .nil))) .nil)))) (.cons (.fof [4] (.n 4) (.seq (.v 2)) (.cons (.ite (.or (.not (.op (.isi ["int"] true) (.cons (.v 4) .nil))) (.or (.op (.isi ["bool"] true) (.cons (.v 4) .nil)) (.or (.op .lt (.cons (.v 4) (.cons (.k (.int 0)) .nil))) (.op .ge (.cons (.v 4) (.cons (.op .len (.cons (.v 0) .nil)) .nil)))))) (.cons (.ret (.k (.bl false))) .nil) .nil) (.cons (.ite (.not (.call c__law_within (.cons (.fz (.op .ix (.cons (.op .ix (.cons (.v 0) (.cons (.v 4) .nil))) (.cons (.k (.int 0)) .nil)))) (.cons (.fz (.v 3)) .nil)))) (.cons (.ret (.k (.bl false))) .nil) .nil) (.cons (.set (.n 3) (.fz (.op .add (.cons (.v 3) (.cons (.op .toList (.cons (.op .ix (.cons (.op .ix (.cons (.v 0) (.cons (.v 4) .nil))) (.cons (.k (.int 1)) .nil))) .nil)) .nil))))) .nil)))) (.cons (.ret (.call c__law_within (.cons (.fz (.op .ix (.cons (.v 1) (.cons (.k (.int 1)) .nil)))) (.cons (.fz (.v 3)) .nil)))) .nil))))
def b_law_own_lines (c__law_within c__law_shuffled : Nat) : CSs := (.cons (.set (.n 3) (.fz (.op .toList (.cons (.op .ix (.cons (.v 2) (.cons (.k (.int 0)) .nil))) .nil)))) (.cons (.set (.n 4) (.fz (.call c__law_shuffled (.cons (.v 0) (.cons (.fz (.op .lrng (.cons (.op .len (.cons (.v 1) .nil)) .nil))) .nil))))) (.cons (.set (.n 5) (.lst .nil)) (.cons (.fof [6, 7] (.n 6) (.rng1 (.op .len (.cons (.v 1) .nil))) (.cons (.set (.n 7) (.fz (.lc [8] (.n 8) (.seq (.v 4)) (.some (.call c__law_within (.cons (.fz (.op .ix (.cons (.op .ix (.cons (.v 1) (.cons (.v 8) .nil))) (.cons (.k (.int 0)) .nil)))) (.cons (.fz (.v 3)) .nil)))) (.v 8)))) (.cons (.ite (.op .eq (.cons (.op .len (.cons (.v 7) .nil)) (.cons (.k (.int 0)) .nil))) (.cons .brk .nil) .nil) (.cons (.ex (.mt .append (.v 5) (.cons (.fz (.op .ix (.cons (.v 7) (.cons (.k (.int 0)) .nil)))) .nil))) (.cons (.set (.n 3) (.fz (.op .add (.cons (.v 3) (.cons (.op .toList (.cons (.op .ix (.cons (.op .ix (.cons (.v 1) (.cons (.op .ix (.cons (.v 7) (.cons (.k (.int 0)) .nil))) .nil))) (.cons (.k (.int 1)) .nil))) .nil)) .nil))))) (.cons (.setLc 4 (.lc [8] (.n 8) (.seq (.v 4)) (.some (.op .ne (.cons (.v 8) (.cons (.op .ix (.cons (.v 7) (.cons (.k (.int 0)) .nil))) .nil)))) (.v 8))) (.frz 4 .nil))))))) (.cons (.ret (.op .toTup (.cons (.v 5) .nil))) .nil)))))
def b_law_papers (c__law_take c__law_pick : Nat) : CSs := (.cons (.set (.n 3) (.lst (.cons (.tup .nil) (.cons (.v 2) (.cons (.op .add (.cons (.v 2) (.cons (.op .slHi (.cons (.v 2) (.cons (.k (.int 2)) .nil))) .nil))) (.cons (.op .slRev (.cons (.v 2) .nil)) (.cons (.op .slLo (.cons (.v 2) (.cons (.k (.int 1)) .nil))) (.cons (.op .slHi (.cons (.v 2) (.cons (.op .neg (.cons (.k (.int 1)) .nil)) .nil))) .nil)))))))) (.cons (.set (.n 4) (.fz (.lst (.cons (.op .neg (.cons (.k (.int 1)) .nil)) (.cons (.op .len (.cons (.v 1) .nil)) (.cons (.op .pow (.cons (.k (.int 10)) (.cons (.k (.int 30)) .nil))) (.cons (.k (.str "0")) (.cons (.k (.str "")) (.cons (.tup (.cons (.k (.int 0)) .nil)) (.cons (.tup .nil) (.cons (.tup (.cons (.k (.str "a")) (.cons (.k (.int 0)) .nil))) .nil))))))))))) (.cons (.ex (.mt .append (.v 3) (.cons (.fz (.op .add (.cons (.v 2) (.cons (.tup (.cons (.call c__law_pick (.cons (.v 0) (.cons (.fz (.v 4)) .nil))) .nil)) .nil)))) .nil))) (.cons (.ite (.op .gt (.cons (.op .len (.cons (.v 2) .nil)) (.cons (.k (.int 0)) .nil))) (.cons (.set (.n 5) (.fz (.call c__law_take (.cons (.v 0) (.cons (.fz (.op .len (.cons (.v 2) .nil))) .nil))))) (.cons (.ex (.mt .append (.v 3) (.cons (.fz (.op .add (.cons (.op .slHi (.cons (.v 2) (.cons (.v 5) .nil))) (.cons (.op .slLo (.cons (.v 2) (.cons (.op .add (.cons (.v 5) (.cons (.k (.int 1)) .nil))) .nil))) .nil)))) .nil))) (.cons (.ex (.mt .append (.v 3) (.cons (.fz (.op .add (.cons (.op .add (.cons (.op .slHi (.cons (.v 2) (.cons (.v 5) .nil))) (.cons (.tup (.cons (.call c__law_pick (.cons (.v 0) (.cons (.fz (.v 4)) .nil))) .nil)) .nil))) (.cons (.op .slLo (.cons (.v 2) (.cons (.op .add (.cons (.v 5) (.cons (.k (.int 1)) .nil))) .nil))) .nil)))) .nil))) (.cons (.ex (.mt .append (.v 3) (.cons (.fz (.op .add (.cons (.op .add (.cons (.op .slHi (.cons (.v 2) (.cons (.v 5) .nil))) (.cons (.tup (.cons (.call c__law_take (.cons (.v 0) (.cons (.fz (.op .len (.cons (.v 1) .nil))) .nil))) .nil)) .nil))) (.cons (.op .slLo (.cons (.v 2) (.cons (.op .add (.cons (.v 5) (.cons (.k (.int 1)) .nil))) .nil))) .nil)))) .nil))) (.cons (.ex (.mt .append (.v 3) (.cons (.fz (.op .add (.cons (.op .add (.cons (.op .slHi (.cons (.v 2) (.cons (.v 5) .nil))) (.cons (.tup (.cons (.tup (.cons (.op .ix (.cons (.v 2) (.cons (.v 5) .nil))) .nil)) .nil)) .nil))) (.cons (.op .slLo (.cons (.v 2) (.cons (.op .add (.cons (.v 5) (.cons (.k (.int 1)) .nil))) .nil))) .nil)))) .nil))) (.cons (.ex (.mt .append (.v 3) (.cons (.fz (.op .add (.cons (.op .add (.cons (.op .slHi (.cons (.v 2) (.cons (.v 5) .nil))) (.cons (.tup (.cons (.op .sub (.cons (.op .ix (.cons (.v 2) (.cons (.v 5) .nil))) (.cons (.op .len (.cons (.v 1) .nil)) .nil))) .nil)) .nil))) (.cons (.op .slLo (.cons (.v 2) (.cons (.op .add (.cons (.v 5) (.cons (.k (.int 1)) .nil))) .nil))) .nil)))) .nil))) .nil)))))) .nil) (.fgt [5] (.cons (.ret (.v 3)) .nil))))))
def b_law_is_asked_right (c_judge_lines c__law_are_lines c__law_same c__law_papers c__law_own_lines c__law_follows c_lines_for : Nat) : CSs := (.cons (.set (.n 4) (.fz (.call c_lines_for (.cons (.fz (.v 1)) (.cons (.fz (.v 2)) (.cons (.fz (.v 3)) .nil)))))) (.cons (.ite (.op .eq (.cons (.op .isN (.cons (.v 4) .nil)) (.cons (.call c__law_follows (.cons (.fz (.v 2)) (.cons (.fz (.v 3)) .nil))) .nil))) (.cons (.ret (.k (.bl false))) .nil) .nil) (.cons (.set (.n 5) (.fz (.call c__law_papers (.cons (.v 0) (.cons (.fz (.v 2)) (.cons (.fz (.call c__law_own_lines (.cons (.v 0) (.cons (.fz (.v 2)) (.cons (.fz (.v 3)) .nil))))) .nil)))))) (.cons (.ite (.op .notN (.cons (.v 4) .nil)) (.cons (.ite (.not (.call c__law_are_lines (.cons (.fz (.v 2)) (.cons (.fz (.v 3)) (.cons (.fz (.v 4)) .nil))))) (.cons (.ret (.k (.bl false))) .nil) .nil) (.cons (.set (.n 5) (.fz (.op .add (.cons (.op .add (.cons (.v 5) (.cons (.lst (.cons (.v 4) .nil)) .nil))) (.cons (.op .slLo (.cons (.call c__law_papers (.cons (.v 0) (.cons (.fz (.v 2)) (.cons (.fz (.v 4)) .nil)))) (.cons (.k (.int 6)) .nil))) .nil))))) .nil)) .nil) (.cons (.fof [6] (.n 6) (.seq (.v 5)) (.cons (.ite (.not (.call c__law_same (.cons (.fz (.call c_judge_lines (.cons (.fz (.v 1)) (.cons (.fz (.v 2)) (.cons (.fz (.v 3)) (.cons (.fz (.v 6)) .nil)))))) (.cons (.fz (.call c__law_are_lines (.cons (.fz (.v 2)) (.cons (.fz (.v 3)) (.cons (.fz (.v 6)) .nil))))) .nil)))) (.cons (.ret (.k (.bl false))) .nil) .nil) .nil)) (.cons (.ret (.k (.bl true))) .nil))))))
def b_lawk52 (c__law_is_asked_right c_judge_lines c__law_same c__law_shuffled c__law_few c__law_any_set c__law_closure c__law_case c__law_words c__law_draws : Nat) : CSs := (.cons (.set (.n 1) (.call c__law_draws (.cons (.fz (.v 0)) (.cons (.fz (.k (.int 600))) .nil)))) (.cons (.set (.n 2) (.fz (.call c__law_words (.cons (.v 1) (.cons (.fz (.k (.int 6))) .nil))))) (.cons (.fof [3, 4, 5, 6, 7, 8] (.n 3) (.rng1 (.k (.int 4))) (.cons (.set (.n 4) (.fz (.call c__law_case (.cons (.v 1) (.cons (.fz (.v 2)) (.cons (.fz (.k (.int 0))) .nil)))))) (.cons (.set (.n 5) (.fz (.call c__law_few (.cons (.v 1) (.cons (.fz (.op .ix (.cons (.v 4) (.cons (.k (.int 0)) .nil)))) (.cons (.fz (.k (.int 2))) .nil)))))) (.cons (.set (.n 6) (.fz (.call c__law_closure (.cons (.fz (.op .ix (.cons (.v 4) (.cons (.k (.int 1)) .nil)))) (.cons (.fz (.v 5)) .nil))))) (.cons (.set (.n 7) (.fz (.lst (.cons (.tup (.cons (.v 5) (.cons (.v 6) .nil))) (.cons (.tup (.cons (.v 5) (.cons (.call c__law_few (.cons (.v 1) (.cons (.fz (.op .ix (.cons (.v 4) (.cons (.k (.int 0)) .nil)))) (.cons (.fz (.k (.int 2))) .nil)))) .nil))) (.cons (.tup (.cons (.call c__law_any_set (.cons (.v 1) (.cons (.fz (.op .ix (.cons (.v 4) (.cons (.k (.int 0)) .nil)))) .nil))) (.cons (.op .ix (.cons (.v 4) (.cons (.k (.int 0)) .nil))) .nil))) .nil)))))) (.cons (.fof [8] (.n 8) (.seq (.v 7)) (.cons (.ite (.not (.call c__law_is_asked_right (.cons (.v 1) (.cons (.fz (.op .ix (.cons (.v 4) (.cons (.k (.int 0)) .nil)))) (.cons (.fz (.op .ix (.cons (.v 4) (.cons (.k (.int 1)) .nil)))) (.cons (.fz (.v 8)) .nil)))))) (.cons (.ret (.k (.bl false))) .nil) .nil) .nil)) .nil)))))) (.cons (.set (.n 9) (.op .toTup (.cons (.op .sorted (.cons (.v 2) .nil)) .nil))) (.cons (.set (.n 10) (.fz (.call c__law_shuffled (.cons (.v 1) (.cons (.fz (.v 9)) .nil))))) (.cons (.set (.n 11) (.fz (.call c__law_shuffled (.cons (.v 1) (.cons (.fz (.op .lrng (.cons (.k (.int 5)) .nil))) .nil))))) (.cons (.set (.n 12) (.op .toTup (.cons (.lc [3] (.n 3) (.seq (.v 11)) .none (.tup (.cons (.tup (.cons (.op .ix (.cons (.v 10) (.cons (.v 3) .nil))) .nil)) (.cons (.tup (.cons (.op .ix (.cons (.v 10) (.cons (.op .add (.cons (.v 3) (.cons (.k (.int 1)) .nil))) .nil))) .nil)) .nil)))) .nil))) (.cons (.set (.n 13) (.op .toTup (.cons (.lc [3] (.n 3) (.rng1 (.k (.int 5))) .none (.mt .indexL (.v 11) (.cons (.v 3) .nil))) .nil))) (.cons (.set (.n 8) (.tup (.cons (.tup (.cons (.op .ix (.cons (.v 10) (.cons (.k (.int 0)) .nil))) .nil)) (.cons (.tup (.cons (.op .ix (.cons (.v 10) (.cons (.k (.int 5)) .nil))) .nil)) .nil)))) (.cons (.ite (.not (.call c__law_same (.cons (.fz (.call c_judge_lines (.cons (.fz (.v 9)) (.cons (.fz (.v 12)) (.cons (.fz (.v 8)) (.cons (.fz (.op .add (.cons (.v 13) (.cons (.v 13) .nil)))) .nil)))))) (.cons (.fz (.k (.bl true))) .nil)))) (.cons (.ret (.k (.bl false))) .nil) .nil) (.cons (.fof [14] (.n 14) (.rng1 (.k (.int 5))) (.cons (.ite (.not (.call c__law_same (.cons (.fz (.call c_judge_lines (.cons (.fz (.v 9)) (.cons (.fz (.v 12)) (.cons (.fz (.v 8)) (.cons (.fz (.op .add (.cons (.op .slHi (.cons (.v 13) (.cons (.v 14) .nil))) (.cons (.op .slLo (.cons (.v 13) (.cons (.op .add (.cons (.v 14) (.cons (.k (.int 1)) .nil))) .nil))) .nil)))) .nil)))))) (.cons (.fz (.k (.bl false))) .nil)))) (.cons (.ret (.k (.bl false))) .nil) .nil) .nil)) (.cons (.ret (.call c__law_is_asked_right (.cons (.v 1) (.cons (.fz (.v 9)) (.cons (.fz (.v 12)) (.cons (.fz (.v 8)) .nil)))))) .nil))))))))))))
end QL
set_option maxHeartbeats 1500000
namespace QL
open PySem L2
local macro_rules
  | `(tactic| simp! [$args,*]) => `(tactic| simp only [frz_b, wE_k, wE_v, kV_v, kV_o, wE_fz, kFz_v, kFz_t, kFz_b, kFzB_v, kFzB_o, wEs_n, wEs_c, kCons_v, kCons_t, kCons_b, kPush_, wE_op, kOp_, wE_mt, kMt_v, kMt_t, kMt_b, wE_sl2, kS1_v, kS1_t, kS1_b, kS2_v, kS2_t, kS2_b, kS2i_i, kS3_v, kS3_t, kS3_b, kS3i_i, kRd_v, kRd_t, kRd_b, wE_and, kAnd_v, kAnd_t, kAnd_b, kAndB_, wE_or, kOr_v, kOr_t, kOr_b, kOrB_, wE_not, kNot_v, kNot_t, kNot_b, kNotB_, wE_ife, kIfe_, wE_tup, kTup_, wE_lst, kLst_, wZ_n, wZ_c, kZ_v, kZ_t, kZ_b, kZB_v, kZB_o, kZp_, wE_call, kCall_, kCallS_, kOut_v, kOut_t, kOut_b, kGb_, argSls_n, argSls_c, kSlc_, argSl_v, argSl_t, argSl_b, kAs_v, kAs_o, bors_n, bors_v, bors_t, bors_b, gb_n, gb_v, gb_t, gb_o, kGv_, gb_w, kGw_, wE_lc, kLc_, kLcD_, kLcI_, kLcE_, lcT_, kTu_, wO_n, wO_s, kTc_, kTe_v, kTe_t, kTe_b, kTeB_v, kTeB_o, wE_ssc, kSsc_, kSscD_, kSscI_, sscT_, kTsu_, kTsc_, kTse_v, op_add, op_sub, op_mul, op_fdiv, op_mod, op_pow, op_shl, op_shr, op_neg, op_eq, op_ne, op_lt, op_le, op_gt, op_ge, op_isin, op_notin, op_isN, op_notN, op_len, op_toInt, op_toList, op_toTup, op_sum, op_max1, op_min1, op_any, op_all, op_sorted, op_max2, op_min2, op_ix, op_slAll, op_slLo, op_slHi, op_join, op_dget2, op_setIx, op_sortSet, op_slRev, op_lrng, op_indexL, op_indexT, op_isi, kDer_, derefs_n, derefs_c, kDc_, deref_v, deref_t, deref_b, kDb_v, kDb_o, op_pop, kPop_, kPopL_, op_append, kApp_, op_insert, kIns_, op_reverse, kRev_, rd_add, rd_mul, rd_eq, rd_ne, rd_lt, rd_gt, rd_ix, rd_slLo, rd_slHi, rd_join, rd_indexL, rd_indexT, rd_isN, rd_notN, rd_len, rd_toInt, rd_toList, rd_toTup, rd_any, rd_all, rd_max1, rd_min1, rd_sum, rd_sorted, rd_sortSet, rd_slRev, rd_lrng, rd_sub, rd_fdiv, rd_mod, rd_pow, rd_shl, rd_shr, rd_le, rd_ge, rd_max2, rd_min2, rd_neg, rd_isin, rd_notin, rd_slAll, rd_isi, add_i, add_s, add_l, add_t, mul_i, mul_s, eq_, lt_i, lt_s, gt_i, gt_s, in_l, in_t, isN_non, isN_bl, isN_int, isN_str, isN_tup, isN_lst, isN_dct, len_lst, len_tup, len_frl, len_str, toInt_i, toInt_b, toList_l, toList_t, toTup_l, toTup_t, rev_l, rev_t, lrng_, ix_l, ix_t, ix_s, kIx_, kIxC_, slLo_, slHi_, sl_l, sl_t, sl_s, mtTy_l, mtTy_t, mtTy_s, isi_non_int, isi_bl_int, isi_int_int, isi_str_int, isi_tup_int, isi_lst_int, isi_dct_int, isi_non_bool, isi_bl_bool, isi_int_bool, isi_str_bool, isi_tup_bool, isi_lst_bool, isi_dct_bool, isi_non_str, isi_bl_str, isi_int_str, isi_str_str, isi_tup_str, isi_lst_str, isi_dct_str, isi_non_tuple, isi_bl_tuple, isi_int_tuple, isi_str_tuple, isi_tup_tuple, isi_lst_tuple, isi_dct_tuple, isi_non_list, isi_bl_list, isi_int_list, isi_str_list, isi_tup_list, isi_lst_list, isi_dct_list, isi_non_tuplelist, isi_bl_tuplelist, isi_int_tuplelist, isi_str_tuplelist, isi_tup_tuplelist, isi_lst_tuplelist, isi_dct_tuplelist, isi_non_intstr, isi_bl_intstr, isi_int_intstr, isi_str_intstr, isi_tup_intstr, isi_lst_intstr, isi_dct_intstr, wT_k, wT_v, wT_op, wT_call, wT_and, wT_or, wT_not, kTAnd_, kTOr_, kTNot_, kTr_v, kTr_t, kTr_b, kTru_, kTruB_, tr_non, tr_bl, tr_int, tr_str, tr_tup, tr_lst, wI_seq, kSeq_v, kSeq_t, kSeq_b, wI_enum, kEnum_v, kEnum_t, kEnum_b, wI_rng1, kR1_v, kR1_t, kR1_b, kR1i_, wI_rng2, kR2_v, kR2_t, kR2_b, kR2b_v, kR2b_t, kR2b_b, kR2i_, wI_zip, kZip_v, kZip_t, kZip_b, kZip2_v, kZip2_t, kZip2_b, sd_seq, sd_enum, sd_rng, sd_zip, kM1_, kM2_, it_seq_n, it_rng_n, it_seq_t, it_rng_t, it_enl_t, it_ent_t, it_zpl_t, it_zpt_t, it_seq_u, it_rng_u, it_enl_u, it_ent_u, it_zpl_u, it_zpt_u, sqi_l, sqi_t, sqi_f, fz_seq, fz_enum, fz_rng, fz_zvv, kFq_, frz_v, frz_t, kFb_v, kFb_o, wSs_n, wSs_c, wSs_g, wSs_z, kFrz_v, kFrz_o, seqE_nx, seqE_rt, seqE_bk, seqE_ct, topE_nx, topE_rt, outF_, nrm_v, nrm_n, nrm_o, fgtF_n, fgtF_c, fg1_z, fg1_s, fgS_n, fgS_v, fgS_o, fgS_b, wS_set, kSet_tn, kSet_tt, kSet_tu, kSet_v, kSet_b, kSetB_v, kSetB_o, kPutE_, asgT_n, asgT_t, asgT_u, asgAll_n, asgAll_c, kA2_, putSl_, kPut_n, kPut_v, kPut_o, wS_setLc, kSetLc_, wS_setIx, kX1_v, kX1_t, kX1_b, kX1B_v, kX1B_o, kX2_, kX3_v, kX3_t, kX3_b, kX4_, kX5_, wS_ex, kEx_v, kEx_t, kEx_b, wS_ret, kRet_v, kRet_t, kRet_b, kRetB_v, kRetB_o, wS_retN, wS_aug, kAug_, kAu_v, kAu_t, kAu_b, kAui_a, kAui_s, wS_ite, kIte_, wS_for, kFor_, kForS_, kForD_, kForI_, forGo_n, forGo_c, kForC_, loopE_nx, loopE_ct, loopE_bk, loopE_rt, wS_fof, kFof_, kFofS_, kFofD_, kFofI_, forGoF_n, forGoF_c, kFofC_, loopF_nx, loopF_ct, loopF_bk, loopF_rt, wS_brk, wS_cnt, wS_pass, wipe_n, wipe_c, rest_n, rest_c, getD_z, getD_s, ownB_n, ownB_c, isOwn_, kIo_n, kIo_v, kIo_o, sb_seq, sb_enum, sb_rng, sb_zip, rb_v, rb_t, rb_b, line_ok, line_lt, List.getElem?_cons_zero, List.getElem?_cons_succ, List.getElem?_nil, List.set_cons_zero, List.set_cons_succ, List.take_succ_cons, List.take_zero, List.map_cons, List.map_nil, List.length_cons, List.length_nil, List.length_map, List.nodup_cons, List.nodup_nil, List.not_mem_nil, List.mem_cons, List.mem_singleton, not_false_eq_true, true_and, and_true, and_self, ite_true, ite_false, if_true, if_false, Bool.false_eq_true, Bool.true_eq_false, Bool.not_true, Bool.not_false, Bool.not_not, Bool.and_true, Bool.true_and, Bool.and_false, Bool.false_and, Bool.or_true, Bool.or_false, bne_iff_ne, beq_iff_eq, decide_eq_true_eq, decide_eq_false_iff_not, Bool.not_eq_true', Bool.not_eq_eq_eq_not, List.contains_nil, List.contains_cons, List.cons_append, List.nil_append, List.append_nil, List.replicate_succ, List.replicate_zero, ne_eq, reduceCtorEq, Nat.lt_irrefl, Option.some.injEq, Int.ofNat_eq_natCast, Nat.zero_lt_succ, Nat.add_lt_add_iff_right, Nat.zero_add, decide_true, decide_false, Bool.decide_eq_true, false_or, or_false, Nat.reduceLeDiff, Nat.reduceAdd, Nat.reduceSub, Nat.reduceLT, Nat.reduceEqDiff, Nat.reduceBEq, Nat.reduceMul, Nat.reducePow, Int.reduceLT, Int.reduceLE, Int.reduceNeg, Int.reduceAdd, Int.reduceSub, Int.reduceMul, Int.reducePow, Int.reduceToNat, Int.reduceEq, Int.reduceBEq, Int.reduceNe, reduceIte, decide_not, eq_self, not_true_eq_false, imp_self, Bool.and_self, Bool.or_self, Bool.and_eq_true, Bool.or_eq_true, Bool.or_eq_false_iff, Bool.true_or, Bool.false_or, Bool.false_bne, Bool.bne_false, Bool.bne_true, $args,*])
local macro_rules
  | `(tactic| simp!) => `(tactic| simp only [frz_b, wE_k, wE_v, kV_v, kV_o, wE_fz, kFz_v, kFz_t, kFz_b, kFzB_v, kFzB_o, wEs_n, wEs_c, kCons_v, kCons_t, kCons_b, kPush_, wE_op, kOp_, wE_mt, kMt_v, kMt_t, kMt_b, wE_sl2, kS1_v, kS1_t, kS1_b, kS2_v, kS2_t, kS2_b, kS2i_i, kS3_v, kS3_t, kS3_b, kS3i_i, kRd_v, kRd_t, kRd_b, wE_and, kAnd_v, kAnd_t, kAnd_b, kAndB_, wE_or, kOr_v, kOr_t, kOr_b, kOrB_, wE_not, kNot_v, kNot_t, kNot_b, kNotB_, wE_ife, kIfe_, wE_tup, kTup_, wE_lst, kLst_, wZ_n, wZ_c, kZ_v, kZ_t, kZ_b, kZB_v, kZB_o, kZp_, wE_call, kCall_, kCallS_, kOut_v, kOut_t, kOut_b, kGb_, argSls_n, argSls_c, kSlc_, argSl_v, argSl_t, argSl_b, kAs_v, kAs_o, bors_n, bors_v, bors_t, bors_b, gb_n, gb_v, gb_t, gb_o, kGv_, gb_w, kGw_, wE_lc, kLc_, kLcD_, kLcI_, kLcE_, lcT_, kTu_, wO_n, wO_s, kTc_, kTe_v, kTe_t, kTe_b, kTeB_v, kTeB_o, wE_ssc, kSsc_, kSscD_, kSscI_, sscT_, kTsu_, kTsc_, kTse_v, op_add, op_sub, op_mul, op_fdiv, op_mod, op_pow, op_shl, op_shr, op_neg, op_eq, op_ne, op_lt, op_le, op_gt, op_ge, op_isin, op_notin, op_isN, op_notN, op_len, op_toInt, op_toList, op_toTup, op_sum, op_max1, op_min1, op_any, op_all, op_sorted, op_max2, op_min2, op_ix, op_slAll, op_slLo, op_slHi, op_join, op_dget2, op_setIx, op_sortSet, op_slRev, op_lrng, op_indexL, op_indexT, op_isi, kDer_, derefs_n, derefs_c, kDc_, deref_v, deref_t, deref_b, kDb_v, kDb_o, op_pop, kPop_, kPopL_, op_append, kApp_, op_insert, kIns_, op_reverse, kRev_, rd_add, rd_mul, rd_eq, rd_ne, rd_lt, rd_gt, rd_ix, rd_slLo, rd_slHi, rd_join, rd_indexL, rd_indexT, rd_isN, rd_notN, rd_len, rd_toInt, rd_toList, rd_toTup, rd_any, rd_all, rd_max1, rd_min1, rd_sum, rd_sorted, rd_sortSet, rd_slRev, rd_lrng, rd_sub, rd_fdiv, rd_mod, rd_pow, rd_shl, rd_shr, rd_le, rd_ge, rd_max2, rd_min2, rd_neg, rd_isin, rd_notin, rd_slAll, rd_isi, add_i, add_s, add_l, add_t, mul_i, mul_s, eq_, lt_i, lt_s, gt_i, gt_s, in_l, in_t, isN_non, isN_bl, isN_int, isN_str, isN_tup, isN_lst, isN_dct, len_lst, len_tup, len_frl, len_str, toInt_i, toInt_b, toList_l, toList_t, toTup_l, toTup_t, rev_l, rev_t, lrng_, ix_l, ix_t, ix_s, kIx_, kIxC_, slLo_, slHi_, sl_l, sl_t, sl_s, mtTy_l, mtTy_t, mtTy_s, isi_non_int, isi_bl_int, isi_int_int, isi_str_int, isi_tup_int, isi_lst_int, isi_dct_int, isi_non_bool, isi_bl_bool, isi_int_bool, isi_str_bool, isi_tup_bool, isi_lst_bool, isi_dct_bool, isi_non_str, isi_bl_str, isi_int_str, isi_str_str, isi_tup_str, isi_lst_str, isi_dct_str, isi_non_tuple, isi_bl_tuple, isi_int_tuple, isi_str_tuple, isi_tup_tuple, isi_lst_tuple, isi_dct_tuple, isi_non_list, isi_bl_list, isi_int_list, isi_str_list, isi_tup_list, isi_lst_list, isi_dct_list, isi_non_tuplelist, isi_bl_tuplelist, isi_int_tuplelist, isi_str_tuplelist, isi_tup_tuplelist, isi_lst_tuplelist, isi_dct_tuplelist, isi_non_intstr, isi_bl_intstr, isi_int_intstr, isi_str_intstr, isi_tup_intstr, isi_lst_intstr, isi_dct_intstr, wT_k, wT_v, wT_op, wT_call, wT_and, wT_or, wT_not, kTAnd_, kTOr_, kTNot_, kTr_v, kTr_t, kTr_b, kTru_, kTruB_, tr_non, tr_bl, tr_int, tr_str, tr_tup, tr_lst, wI_seq, kSeq_v, kSeq_t, kSeq_b, wI_enum, kEnum_v, kEnum_t, kEnum_b, wI_rng1, kR1_v, kR1_t, kR1_b, kR1i_, wI_rng2, kR2_v, kR2_t, kR2_b, kR2b_v, kR2b_t, kR2b_b, kR2i_, wI_zip, kZip_v, kZip_t, kZip_b, kZip2_v, kZip2_t, kZip2_b, sd_seq, sd_enum, sd_rng, sd_zip, kM1_, kM2_, it_seq_n, it_rng_n, it_seq_t, it_rng_t, it_enl_t, it_ent_t, it_zpl_t, it_zpt_t, it_seq_u, it_rng_u, it_enl_u, it_ent_u, it_zpl_u, it_zpt_u, sqi_l, sqi_t, sqi_f, fz_seq, fz_enum, fz_rng, fz_zvv, kFq_, frz_v, frz_t, kFb_v, kFb_o, wSs_n, wSs_c, wSs_g, wSs_z, kFrz_v, kFrz_o, seqE_nx, seqE_rt, seqE_bk, seqE_ct, topE_nx, topE_rt, outF_, nrm_v, nrm_n, nrm_o, fgtF_n, fgtF_c, fg1_z, fg1_s, fgS_n, fgS_v, fgS_o, fgS_b, wS_set, kSet_tn, kSet_tt, kSet_tu, kSet_v, kSet_b, kSetB_v, kSetB_o, kPutE_, asgT_n, asgT_t, asgT_u, asgAll_n, asgAll_c, kA2_, putSl_, kPut_n, kPut_v, kPut_o, wS_setLc, kSetLc_, wS_setIx, kX1_v, kX1_t, kX1_b, kX1B_v, kX1B_o, kX2_, kX3_v, kX3_t, kX3_b, kX4_, kX5_, wS_ex, kEx_v, kEx_t, kEx_b, wS_ret, kRet_v, kRet_t, kRet_b, kRetB_v, kRetB_o, wS_retN, wS_aug, kAug_, kAu_v, kAu_t, kAu_b, kAui_a, kAui_s, wS_ite, kIte_, wS_for, kFor_, kForS_, kForD_, kForI_, forGo_n, forGo_c, kForC_, loopE_nx, loopE_ct, loopE_bk, loopE_rt, wS_fof, kFof_, kFofS_, kFofD_, kFofI_, forGoF_n, forGoF_c, kFofC_, loopF_nx, loopF_ct, loopF_bk, loopF_rt, wS_brk, wS_cnt, wS_pass, wipe_n, wipe_c, rest_n, rest_c, getD_z, getD_s, ownB_n, ownB_c, isOwn_, kIo_n, kIo_v, kIo_o, sb_seq, sb_enum, sb_rng, sb_zip, rb_v, rb_t, rb_b, line_ok, line_lt, List.getElem?_cons_zero, List.getElem?_cons_succ, List.getElem?_nil, List.set_cons_zero, List.set_cons_succ, List.take_succ_cons, List.take_zero, List.map_cons, List.map_nil, List.length_cons, List.length_nil, List.length_map, List.nodup_cons, List.nodup_nil, List.not_mem_nil, List.mem_cons, List.mem_singleton, not_false_eq_true, true_and, and_true, and_self, ite_true, ite_false, if_true, if_false, Bool.false_eq_true, Bool.true_eq_false, Bool.not_true, Bool.not_false, Bool.not_not, Bool.and_true, Bool.true_and, Bool.and_false, Bool.false_and, Bool.or_true, Bool.or_false, bne_iff_ne, beq_iff_eq, decide_eq_true_eq, decide_eq_false_iff_not, Bool.not_eq_true', Bool.not_eq_eq_eq_not, List.contains_nil, List.contains_cons, List.cons_append, List.nil_append, List.append_nil, List.replicate_succ, List.replicate_zero, ne_eq, reduceCtorEq, Nat.lt_irrefl, Option.some.injEq, Int.ofNat_eq_natCast, Nat.zero_lt_succ, Nat.add_lt_add_iff_right, Nat.zero_add, decide_true, decide_false, Bool.decide_eq_true, false_or, or_false, Nat.reduceLeDiff, Nat.reduceAdd, Nat.reduceSub, Nat.reduceLT, Nat.reduceEqDiff, Nat.reduceBEq, Nat.reduceMul, Nat.reducePow, Int.reduceLT, Int.reduceLE, Int.reduceNeg, Int.reduceAdd, Int.reduceSub, Int.reduceMul, Int.reducePow, Int.reduceToNat, Int.reduceEq, Int.reduceBEq, Int.reduceNe, reduceIte, decide_not, eq_self, not_true_eq_false, imp_self, Bool.and_self, Bool.or_self, Bool.and_eq_true, Bool.or_eq_true, Bool.or_eq_false_iff, Bool.true_or, Bool.false_or, Bool.false_bne, Bool.bne_false, Bool.bne_true])
local macro_rules
  | `(tactic| simp! at $h:ident) => `(tactic| simp only [frz_b, wE_k, wE_v, kV_v, kV_o, wE_fz, kFz_v, kFz_t, kFz_b, kFzB_v, kFzB_o, wEs_n, wEs_c, kCons_v, kCons_t, kCons_b, kPush_, wE_op, kOp_, wE_mt, kMt_v, kMt_t, kMt_b, wE_sl2, kS1_v, kS1_t, kS1_b, kS2_v, kS2_t, kS2_b, kS2i_i, kS3_v, kS3_t, kS3_b, kS3i_i, kRd_v, kRd_t, kRd_b, wE_and, kAnd_v, kAnd_t, kAnd_b, kAndB_, wE_or, kOr_v, kOr_t, kOr_b, kOrB_, wE_not, kNot_v, kNot_t, kNot_b, kNotB_, wE_ife, kIfe_, wE_tup, kTup_, wE_lst, kLst_, wZ_n, wZ_c, kZ_v, kZ_t, kZ_b, kZB_v, kZB_o, kZp_, wE_call, kCall_, kCallS_, kOut_v, kOut_t, kOut_b, kGb_, argSls_n, argSls_c, kSlc_, argSl_v, argSl_t, argSl_b, kAs_v, kAs_o, bors_n, bors_v, bors_t, bors_b, gb_n, gb_v, gb_t, gb_o, kGv_, gb_w, kGw_, wE_lc, kLc_, kLcD_, kLcI_, kLcE_, lcT_, kTu_, wO_n, wO_s, kTc_, kTe_v, kTe_t, kTe_b, kTeB_v, kTeB_o, wE_ssc, kSsc_, kSscD_, kSscI_, sscT_, kTsu_, kTsc_, kTse_v, op_add, op_sub, op_mul, op_fdiv, op_mod, op_pow, op_shl, op_shr, op_neg, op_eq, op_ne, op_lt, op_le, op_gt, op_ge, op_isin, op_notin, op_isN, op_notN, op_len, op_toInt, op_toList, op_toTup, op_sum, op_max1, op_min1, op_any, op_all, op_sorted, op_max2, op_min2, op_ix, op_slAll, op_slLo, op_slHi, op_join, op_dget2, op_setIx, op_sortSet, op_slRev, op_lrng, op_indexL, op_indexT, op_isi, kDer_, derefs_n, derefs_c, kDc_, deref_v, deref_t, deref_b, kDb_v, kDb_o, op_pop, kPop_, kPopL_, op_append, kApp_, op_insert, kIns_, op_reverse, kRev_, rd_add, rd_mul, rd_eq, rd_ne, rd_lt, rd_gt, rd_ix, rd_slLo, rd_slHi, rd_join, rd_indexL, rd_indexT, rd_isN, rd_notN, rd_len, rd_toInt, rd_toList, rd_toTup, rd_any, rd_all, rd_max1, rd_min1, rd_sum, rd_sorted, rd_sortSet, rd_slRev, rd_lrng, rd_sub, rd_fdiv, rd_mod, rd_pow, rd_shl, rd_shr, rd_le, rd_ge, rd_max2, rd_min2, rd_neg, rd_isin, rd_notin, rd_slAll, rd_isi, add_i, add_s, add_l, add_t, mul_i, mul_s, eq_, lt_i, lt_s, gt_i, gt_s, in_l, in_t, isN_non, isN_bl, isN_int, isN_str, isN_tup, isN_lst, isN_dct, len_lst, len_tup, len_frl, len_str, toInt_i, toInt_b, toList_l, toList_t, toTup_l, toTup_t, rev_l, rev_t, lrng_, ix_l, ix_t, ix_s, kIx_, kIxC_, slLo_, slHi_, sl_l, sl_t, sl_s, mtTy_l, mtTy_t, mtTy_s, isi_non_int, isi_bl_int, isi_int_int, isi_str_int, isi_tup_int, isi_lst_int, isi_dct_int, isi_non_bool, isi_bl_bool, isi_int_bool, isi_str_bool, isi_tup_bool, isi_lst_bool, isi_dct_bool, isi_non_str, isi_bl_str, isi_int_str, isi_str_str, isi_tup_str, isi_lst_str, isi_dct_str, isi_non_tuple, isi_bl_tuple, isi_int_tuple, isi_str_tuple, isi_tup_tuple, isi_lst_tuple, isi_dct_tuple, isi_non_list, isi_bl_list, isi_int_list, isi_str_list, isi_tup_list, isi_lst_list, isi_dct_list, isi_non_tuplelist, isi_bl_tuplelist, isi_int_tuplelist, isi_str_tuplelist, isi_tup_tuplelist, isi_lst_tuplelist, isi_dct_tuplelist, isi_non_intstr, isi_bl_intstr, isi_int_intstr, isi_str_intstr, isi_tup_intstr, isi_lst_intstr, isi_dct_intstr, wT_k, wT_v, wT_op, wT_call, wT_and, wT_or, wT_not, kTAnd_, kTOr_, kTNot_, kTr_v, kTr_t, kTr_b, kTru_, kTruB_, tr_non, tr_bl, tr_int, tr_str, tr_tup, tr_lst, wI_seq, kSeq_v, kSeq_t, kSeq_b, wI_enum, kEnum_v, kEnum_t, kEnum_b, wI_rng1, kR1_v, kR1_t, kR1_b, kR1i_, wI_rng2, kR2_v, kR2_t, kR2_b, kR2b_v, kR2b_t, kR2b_b, kR2i_, wI_zip, kZip_v, kZip_t, kZip_b, kZip2_v, kZip2_t, kZip2_b, sd_seq, sd_enum, sd_rng, sd_zip, kM1_, kM2_, it_seq_n, it_rng_n, it_seq_t, it_rng_t, it_enl_t, it_ent_t, it_zpl_t, it_zpt_t, it_seq_u, it_rng_u, it_enl_u, it_ent_u, it_zpl_u, it_zpt_u, sqi_l, sqi_t, sqi_f, fz_seq, fz_enum, fz_rng, fz_zvv, kFq_, frz_v, frz_t, kFb_v, kFb_o, wSs_n, wSs_c, wSs_g, wSs_z, kFrz_v, kFrz_o, seqE_nx, seqE_rt, seqE_bk, seqE_ct, topE_nx, topE_rt, outF_, nrm_v, nrm_n, nrm_o, fgtF_n, fgtF_c, fg1_z, fg1_s, fgS_n, fgS_v, fgS_o, fgS_b, wS_set, kSet_tn, kSet_tt, kSet_tu, kSet_v, kSet_b, kSetB_v, kSetB_o, kPutE_, asgT_n, asgT_t, asgT_u, asgAll_n, asgAll_c, kA2_, putSl_, kPut_n, kPut_v, kPut_o, wS_setLc, kSetLc_, wS_setIx, kX1_v, kX1_t, kX1_b, kX1B_v, kX1B_o, kX2_, kX3_v, kX3_t, kX3_b, kX4_, kX5_, wS_ex, kEx_v, kEx_t, kEx_b, wS_ret, kRet_v, kRet_t, kRet_b, kRetB_v, kRetB_o, wS_retN, wS_aug, kAug_, kAu_v, kAu_t, kAu_b, kAui_a, kAui_s, wS_ite, kIte_, wS_for, kFor_, kForS_, kForD_, kForI_, forGo_n, forGo_c, kForC_, loopE_nx, loopE_ct, loopE_bk, loopE_rt, wS_fof, kFof_, kFofS_, kFofD_, kFofI_, forGoF_n, forGoF_c, kFofC_, loopF_nx, loopF_ct, loopF_bk, loopF_rt, wS_brk, wS_cnt, wS_pass, wipe_n, wipe_c, rest_n, rest_c, getD_z, getD_s, ownB_n, ownB_c, isOwn_, kIo_n, kIo_v, kIo_o, sb_seq, sb_enum, sb_rng, sb_zip, rb_v, rb_t, rb_b, line_ok, line_lt, List.getElem?_cons_zero, List.getElem?_cons_succ, List.getElem?_nil, List.set_cons_zero, List.set_cons_succ, List.take_succ_cons, List.take_zero, List.map_cons, List.map_nil, List.length_cons, List.length_nil, List.length_map, List.nodup_cons, List.nodup_nil, List.not_mem_nil, List.mem_cons, List.mem_singleton, not_false_eq_true, true_and, and_true, and_self, ite_true, ite_false, if_true, if_false, Bool.false_eq_true, Bool.true_eq_false, Bool.not_true, Bool.not_false, Bool.not_not, Bool.and_true, Bool.true_and, Bool.and_false, Bool.false_and, Bool.or_true, Bool.or_false, bne_iff_ne, beq_iff_eq, decide_eq_true_eq, decide_eq_false_iff_not, Bool.not_eq_true', Bool.not_eq_eq_eq_not, List.contains_nil, List.contains_cons, List.cons_append, List.nil_append, List.append_nil, List.replicate_succ, List.replicate_zero, ne_eq, reduceCtorEq, Nat.lt_irrefl, Option.some.injEq, Int.ofNat_eq_natCast, Nat.zero_lt_succ, Nat.add_lt_add_iff_right, Nat.zero_add, decide_true, decide_false, Bool.decide_eq_true, false_or, or_false, Nat.reduceLeDiff, Nat.reduceAdd, Nat.reduceSub, Nat.reduceLT, Nat.reduceEqDiff, Nat.reduceBEq, Nat.reduceMul, Nat.reducePow, Int.reduceLT, Int.reduceLE, Int.reduceNeg, Int.reduceAdd, Int.reduceSub, Int.reduceMul, Int.reducePow, Int.reduceToNat, Int.reduceEq, Int.reduceBEq, Int.reduceNe, reduceIte, decide_not, eq_self, not_true_eq_false, imp_self, Bool.and_self, Bool.or_self, Bool.and_eq_true, Bool.or_eq_true, Bool.or_eq_false_iff, Bool.true_or, Bool.false_or, Bool.false_bne, Bool.bne_false, Bool.bne_true] at $h:ident)
/-! NC: gains by their places -/
def NxOk (C : WC) (i : Nat) : Prop := ∀ (ts : List Tie) (k : List Str) (Q : Rf → List Sl → Prop), TOk ts → ((∀ t ∈ ts, ¬ Gains t k) → Q (.val .non) [.none, .none]) →
  (∀ (t : Tie) (j : Nat), ts[j]? = some t → Gains t k → Q (.val (.tup [.int j, tS (wto t.2 k)])) [.none, .none]) → C i [.val (tiesD ts), .val (tS k)] Q
theorem zip_drop {α : Type} {xs us : List α} {j : Nat} {x : α} (h : xs.drop j = x :: us) : xs[j]? = some x ∧ xs.drop (j + 1) = us := by
  have h0 : (xs.drop j)[0]? = some x := by rw [h]; rfl
  rw [List.getElem?_drop] at h0
  refine ⟨h0, ?_⟩
  have := congrArg (List.drop 1) h
  rw [List.drop_drop] at this
  simpa [Nat.add_comm] using this
theorem nx_ok {C : WC} {s w : Nat} (hw : WtoOk C w) (hs : SubOk C s) {ts : List Tie} {k : List Str} {Q : Rf → List Sl → Prop} (ht : TOk ts) (q0 : (∀ t ∈ ts, ¬ Gains t k) → Q (.val .non) [.none, .none])
    (q1 : ∀ (t : Tie) (j : Nat), ts[j]? = some t → Gains t k → Q (.val (.tup [.int j, tS (wto t.2 k)])) [.none, .none]) : wSs C (b_next_gain s w) [.val (tiesD ts), .val (tS k), .none, .none, .none, .none] (topE 2 Q) := by
  unfold b_next_gain
  simp! [enumD_zip]
  refine fof_ind (I := fun us fr => fr = [.val (tiesD ts), .val (tS k), .none, .none, .none, .none] ∧ ∃ j, us = (ts.drop j).zipIdx j ∧ ∀ t ∈ ts.take j, ¬ Gains t k) ?_ ?_ ⟨rfl, 0, rfl, fun t h => (by cases h)⟩
  · rintro ⟨t, i⟩ r fr ⟨rfl, j, eu, hn⟩ ih
    have hc : ∃ v us, ts.drop j = v :: us := by
      cases e : ts.drop j with
      | nil => rw [e] at eu; cases eu
      | cons v us => exact ⟨v, us, rfl⟩
    obtain ⟨v, us, e⟩ := hc
    obtain ⟨hj, hd⟩ := zip_drop e
    rw [e, List.zipIdx_cons] at eu
    cases eu
    have ti : t ∈ ts := List.mem_of_getElem? hj
    have sd := ht.sides t ti
    have fin : ¬ Gains t k → us.zipIdx (i + 1) = (ts.drop (i + 1)).zipIdx (i + 1) ∧ ∀ u ∈ ts.take (i + 1), ¬ Gains u k := fun ng => ⟨by rw [hd], fun u hu => by
      rw [List.take_add_one, hj] at hu
      rcases List.mem_append.mp hu with z | z
      · exact hn u z
      · cases List.mem_singleton.mp z
        exact ng⟩
    simp!
    refine hw _ _ _ (by omega) fun s1 s2 => ?_
    simp!
    by_cases h0 : (0 : Int) < (wto t.2 k).length
    · simp! [h0]
      refine hs _ _ _ (by omega) fun s3 s4 => ?_
      simp!
      by_cases h1 : ∀ x ∈ t.1, x ∈ k
      · rw [if_pos h1]
        exact q1 t i hj ⟨List.length_pos_iff.mp (by omega), h1⟩
      · rw [if_neg h1]
        exact ih _ ⟨rfl, _, fin fun g => h1 g.2⟩
    · simp! [h0]
      exact ih _ ⟨rfl, _, fin fun g => h0 (by have := List.length_pos_iff.mpr g.1; omega)⟩
  · rintro fr ⟨rfl, j, eu, hn⟩
    simp!
    refine q0 fun t ht => hn t ?_
    have : ts.drop j = [] := by
      cases e : ts.drop j with
      | nil => rfl
      | cons v us => rw [e] at eu; cases eu
    rw [← List.take_append_drop j ts, this, List.append_nil] at ht
    exact ht
/-! ### gains -/
abbrev gN (g : Nat × List Str) : D := .tup [.int g.1, tS g.2]
def gks (l : List Str) (gs : List (Nat × List Str)) : List Str := l ++ gs.flatMap fun g => g.2
theorem mem_gks {l : List Str} {gs : List (Nat × List Str)} {x : Str} : x ∈ gks l gs ↔ x ∈ l ∨ ∃ g ∈ gs, x ∈ g.2 := by
  unfold gks
  simp
inductive Gns (ts : List Tie) (l : List Str) : List (Nat × List Str) → Prop
  | nil : Gns ts l []
  | snoc {gs : List (Nat × List Str)} {j : Nat} {t : Tie} {g : List Str} : Gns ts l gs → ts[j]? = some t → (∀ x ∈ t.1, x ∈ gks l gs) → (∀ x, x ∈ g ↔ x ∈ t.2 ∧ x ∉ gks l gs) → g.length ≤ 12 → Gns ts l (gs ++ [(j, g)])
theorem Gns.cl {ts : List Tie} {l : List Str} {gs : List (Nat × List Str)} (h : Gns ts l gs) : ∀ {x : Str}, x ∈ gks l gs → Cl ts l x := by
  induction h with
  | nil => intro x hx; exact .base (by simpa [gks] using hx)
  | @snoc gs j t g hg ht h1 h2 _ ih =>
    intro x hx
    rw [mem_gks] at hx
    rcases hx with z | ⟨g', z1, z2⟩
    · exact .base z
    · rcases List.mem_append.mp z1 with z | z
      · exact ih (mem_gks.mpr (.inr ⟨g', z, z2⟩))
      · cases List.mem_singleton.mp z
        exact .step (List.mem_of_getElem? ht) (fun y hy => ih (h1 y hy)) ((h2 x).mp z2).1
theorem Gns.small {ts : List Tie} {l : List Str} {gs : List (Nat × List Str)} (h : Gns ts l gs) : ∀ g ∈ gs, g.2.length ≤ 12 := by
  induction h with
  | nil => intro g hg; cases hg
  | snoc hg ht h1 h2 h3 ih =>
    intro g' hg'
    rcases List.mem_append.mp hg' with z | z
    · exact ih g' z
    · cases List.mem_singleton.mp z
      exact h3
def GnOk (C : WC) (i : Nat) : Prop := ∀ (ts : List Tie) (l : List Str) (Q : Rf → List Sl → Prop), TOk ts → l.length ≤ 100 →
  (∀ gs : List (Nat × List Str), Gns ts l gs → gs.length ≤ 240 → (∀ x, x ∈ gks l gs ↔ Cl ts l x) → Q (.tmp (.lst (gs.map gN))) [.none, .none]) → C i [.val (tiesD ts), .val (tS l)] Q
structure KnS (ts : List Tie) (l k : List Str) (gs : List (Nat × List Str)) : Prop where
  mem : ∀ x, x ∈ k ↔ x ∈ gks l gs
  gn : Gns ts l gs
  sh : k = l ∨ k.Nodup
  cnt : gs.length + unk ts k ≤ 240
theorem KnS.len {ts : List Tie} {l k : List Str} {gs : List (Nat × List Str)} (h : KnS ts l k gs) (ht : TOk ts) (hl : l.length ≤ 100) : k.length ≤ 340 := by
  rcases h.sh with e | e
  · rw [e]; omega
  · have := nodup_len e fun x hx => cl_in (h.gn.cl ((h.mem x).mp hx))
    have h2 := ht.rl
    rw [List.length_append] at this
    omega
theorem KnS.next {ts : List Tie} {l k k2 : List Str} {gs : List (Nat × List Str)} {t : Tie} {j : Nat} (h : KnS ts l k gs) (tk : TOk ts) (ht : ts[j]? = some t) (g : Gains t k) (hm : ∀ x, x ∈ k2 ↔ x ∈ k ∨ x ∈ wto t.2 k) (s : Srt k2) : KnS ts l k2 (gs ++ [(j, wto t.2 k)]) where
  mem := fun x => by
    rw [hm, h.mem, mem_gks, mem_gks]
    simp only [List.mem_append, List.mem_singleton]
    constructor
    · rintro ((z | ⟨g, z1, z2⟩) | z)
      · exact .inl z
      · exact .inr ⟨g, .inl z1, z2⟩
      · exact .inr ⟨_, .inr rfl, z⟩
    · rintro (z | ⟨g, z1 | rfl, z2⟩)
      · exact .inl (.inl z)
      · exact .inl (.inr ⟨g, z1, z2⟩)
      · exact .inr z2
  gn := .snoc h.gn ht (fun x hx => (h.mem x).mp (g.2 x hx)) (fun x => by rw [mem_wto, h.mem]) (Nat.le_trans (List.length_filter_le ..) (tk.sides t (List.mem_of_getElem? ht)).2)
  sh := .inr s.2
  cnt := by
    have h1 := unk_lt (List.mem_of_getElem? ht) g hm
    have h2 := h.cnt
    rw [List.length_append]
    simp only [List.length_singleton]
    omega
theorem gn_ok {C : WC} {n u : Nat} (hn : NxOk C n) (hu : UniOk C u) {ts : List Tie} {l : List Str} {Q : Rf → List Sl → Prop} (ht : TOk ts) (hl : l.length ≤ 100)
    (q : ∀ gs : List (Nat × List Str), Gns ts l gs → gs.length ≤ 240 → (∀ x, x ∈ gks l gs ↔ Cl ts l x) → Q (.tmp (.lst (gs.map gN))) [.none, .none]) : wSs C (b_gains n u) [.val (tiesD ts), .val (tS l), .none, .none, .none] (topE 2 Q) := by
  let I : Nat → Fr → Prop := fun m fr => ∃ (k : List Str) (gs : List (Nat × List Str)) (g : D), m = unk ts k ∧ KnS ts l k gs ∧ fr = [.val (tiesD ts), .val (tS l), .val (tS k), .own false (.lst (gs.map gN)), .val g] ∧
    ((g = .non ∧ ∀ t ∈ ts, ¬ Gains t k) ∨ ∃ (t : Tie) (j : Nat), g = .tup [.int j, tS (wto t.2 k)] ∧ ts[j]? = some t ∧ Gains t k)
  have start : KnS ts l l [] := ⟨fun x => by simp [gks], .nil, .inl rfl, by
    have := ht.rl
    have h2 := List.length_filter_le (fun x => !decide (x ∈ l)) (rights ts)
    unfold unk
    simp only [List.length_nil]
    omega⟩
  unfold b_gains
  simp!
  refine hn _ _ _ ht (fun hno => ?_) fun t2 j2 h1 h2 => ?_
  all_goals
    simp!
    refine whl_ind I (m := unk ts l) (fun m fr hI nx hnx => ?_) ?_
    · obtain ⟨k, gs, g, rfl, kn, rfl, hg⟩ := hI
      have kl := kn.len ht hl
      have gl := kn.cnt
      rcases hg with ⟨rfl, hno⟩ | ⟨t, j, rfl, tt, g⟩
      · simp! [kWh_]
        refine q gs kn.gn (by omega) fun x => ?_
        rw [← kn.mem]
        exact cl_of (fun y hy => (kn.mem y).mpr (mem_gks.mpr (.inl hy))) (fun x hx => kn.gn.cl ((kn.mem x).mp hx)) fun t ht h1 y hy => Classical.byContradiction fun ny => hno t ht ⟨List.ne_nil_of_mem (mem_wto.mpr ⟨hy, ny⟩), h1⟩
      · have ew : atI [D.int j, tS (wto t.2 k)] 1 = some (tS (wto t.2 k)) := rfl
        simp! [kWh_, ew]
        refine ⟨Nat.lt_of_le_of_lt (show gs.length ≤ 240 by omega) (small1000 (by decide)), ?_⟩
        have wl : (wto t.2 k).length ≤ 12 := Nat.le_trans (List.length_filter_le ..) (ht.sides t (List.mem_of_getElem? tt)).2
        refine hu _ _ _ (by omega) fun ys s1 s2 sy hy => ?_
        simp!
        have kn2 := kn.next ht tt g hy sy
        have lt := unk_lt (List.mem_of_getElem? tt) g hy
        refine hn _ _ _ ht (fun hno => ?_) fun t2 j2 h1 h2 => ?_
        · simp! [loopW_nx]
          exact hnx _ _ lt ⟨ys, _, .non, rfl, kn2, by simp, .inl ⟨rfl, hno⟩⟩
        · simp! [loopW_nx]
          exact hnx _ _ lt ⟨ys, _, _, rfl, kn2, by simp, .inr ⟨t2, j2, rfl, h1, h2⟩⟩
    · first
        | exact ⟨l, [], .non, rfl, start, rfl, .inl ⟨rfl, hno⟩⟩
        | exact ⟨l, [], _, rfl, start, rfl, .inr ⟨t2, j2, rfl, h1, h2⟩⟩
theorem gn_weak {C : WC} {i : Nat} (h : GnOk C i) : GainsOk C i := fun ts l Q ht hl q => h ts l Q ht hl fun gs h1 h2 h3 => by
  have := q (gs.map fun g => ((g.1 : Int), g.2)) .none .none (by rw [List.length_map]; exact h2) (fun g hg => by
    obtain ⟨g', z, rfl⟩ := List.mem_map.mp hg
    exact h1.small g' z) fun x => by
      rw [← h3, mem_gks]
      constructor
      · rintro (z | ⟨g, z1, z2⟩)
        · exact .inl z
        · obtain ⟨g', z, rfl⟩ := List.mem_map.mp z1
          exact .inr ⟨g', z, z2⟩
      · rintro (z | ⟨g, z1, z2⟩)
        · exact .inl z
        · exact .inr ⟨_, List.mem_map.mpr ⟨g, z1, rfl⟩, z2⟩
  rw [List.map_map] at this
  exact this
/-! ### lines -/
def com (p c : List Str) : List Str := p.filter fun x => decide (x ∈ c)
def ComOk (C : WC) (i : Nat) : Prop := ∀ (p c : List Str) (Q : Rf → List Sl → Prop), p.length ≤ 1000 → Q (.val (tS (com p c))) [.none, .none] → C i [.val (tS p), .val (tS c)] Q
theorem com_ok {C : WC} {p c : List Str} {Q : Rf → List Sl → Prop} (hp : p.length ≤ 1000) (q : Q (.val (tS (com p c))) [.none, .none]) : wSs C b_common [.val (tS p), .val (tS c), .none] (topE 2 Q) := by
  unfold b_common
  simp!
  refine ⟨le_line hp, lc_filter D.str (fun y => decide (y ∈ c)) D.str rfl (fun y hy K hK => ?_) ?_⟩
  · simp! [pl30_ts, any_str, pl_str]
    by_cases h : y ∈ c
    · simp! [h]
      have := hK [.val (tS p), .val (tS c), .val (.str y)] rfl
      simpa [h] using this
    · simp! [h]
      have := hK [.val (tS p), .val (tS c), .val (.str y)] rfl
      simpa [h] using this
  · simp!
    exact q
/-- lines are right -/
def jl (ts : List Tie) (r : List Str) : List Str → List D → Bool
  | k, [] => decide (∀ x ∈ r, x ∈ k)
  | k, .int i :: ls => if 0 ≤ i ∧ i < ts.length then (match ts[i.toNat]? with
      | some t => if ∀ x ∈ t.1, x ∈ k then jl ts r (k ++ t.2) ls else false
      | none => false) else false
  | _, _ :: _ => false
theorem jl_nil {ts : List Tie} {r k : List Str} : jl ts r k [] = decide (∀ x ∈ r, x ∈ k) := by
  unfold jl
  rfl
theorem jl_in {ts : List Tie} {r k : List Str} {i : Int} {t : Tie} {ls : List D} (hi : 0 ≤ i) (et : ts[i.toNat]? = some t) : jl ts r k (.int i :: ls) = if ∀ x ∈ t.1, x ∈ k then jl ts r (k ++ t.2) ls else false := by
  have := (List.getElem?_eq_some_iff.mp et).1
  conv => lhs; unfold jl
  rw [if_pos ⟨hi, by omega⟩, et]
theorem jl_out {ts : List Tie} {r k : List Str} {i : Int} {ls : List D} (hi : ¬ (0 ≤ i ∧ i < ts.length)) : jl ts r k (.int i :: ls) = false := by
  conv => lhs; unfold jl
  rw [if_neg hi]
theorem jl_congr {ts : List Tie} {r : List Str} : ∀ {ls : List D} {k k' : List Str}, (∀ x, x ∈ k ↔ x ∈ k') → jl ts r k ls = jl ts r k' ls
  | [], k, k', h => by
    unfold jl
    simp only [h]
  | d :: ls, k, k', h => by
    cases d <;> try rfl
    rename_i i
    unfold jl
    cases e : ts[i.toNat]? with
    | none => rfl
    | some t =>
      have := jl_congr (ts := ts) (r := r) (ls := ls) (k := k ++ t.2) (k' := k' ++ t.2) fun x => by simp [h]
      simp only [h, this]
/-- what stands in a paper -/
def LD (d : D) : Prop := (∃ i, d = .int i) ∨ (∃ x, d = .str x) ∨ ∃ xs, d = .tup xs
def JudgeOk (C : WC) (i : Nat) : Prop := ∀ (d : D) (ts : List Tie) (t : Tie) (ls : List D) (Q : Rf → List Sl → Prop), TOk ts → t.1.length ≤ 12 → t.2.length ≤ 340 → (∀ d ∈ ls, LD d) →
  Q (.val (.bl (jl ts t.2 t.1 ls))) [.none, .none, .none, .none] → C i [.val d, .val (tiesD ts), .val (tieD t), .val (.tup ls)] Q
theorem judge_ok {C : WC} {w u : Nat} (hw : SubOk C w) (hu : UniOk C u) {d : D} {ts : List Tie} {t : Tie} {ls : List D} {Q : Rf → List Sl → Prop} (ht : TOk ts) (h1 : t.1.length ≤ 12) (h2 : t.2.length ≤ 340) (hd : ∀ d ∈ ls, LD d)
    (q : Q (.val (.bl (jl ts t.2 t.1 ls))) [.none, .none, .none, .none]) : wSs C (b_judge_lines w u) [.val d, .val (tiesD ts), .val (tieD t), .val (.tup ls), .none, .none, .none, .none, .none] (topE 4 Q) := by
  unfold b_judge_lines
  simp!
  refine fof_indD (I := fun us fr => ∃ k : List Str, fr = [.val d, .val (tiesD ts), .val (tieD t), .val (.tup ls), .val (tS k), .val (tS t.2), .none, .none, .none] ∧ jl ts t.2 k us = jl ts t.2 t.1 ls ∧ (∀ d ∈ us, LD d) ∧ (k = t.1 ∨ k.Nodup) ∧ ∀ x ∈ k, x ∈ t.1 ++ rights ts) ?_ ?_ ⟨t.1, rfl, rfl, hd, .inl rfl, fun x hx => List.mem_append_left _ hx⟩
  · rintro x r fr ⟨k, rfl, e, hd, hk, hs⟩ ih
    have kl : k.length ≤ 252 := by
      rcases hk with rfl | hk
      · omega
      · have := nodup_len hk hs
        have h3 := ht.rl
        rw [List.length_append] at this
        omega
    have hx := hd x List.mem_cons_self
    rcases hx with ⟨i, rfl⟩ | ⟨y, rfl⟩ | ⟨ys, rfl⟩
    · by_cases hi : 0 ≤ i ∧ i < ts.length
      · have hlt : i.toNat < ts.length := by omega
        have et := List.getElem?_eq_getElem hlt
        have hmem := List.getElem_mem hlt
        have sd := ht.sides _ hmem
        have ea : atI (ts.map tieD) i = some (tieD ts[i.toNat]) := atI_some hi.1 (by rw [List.getElem?_map, et]; rfl)
        have n1 : ¬ i < 0 := by omega
        have n2 : ¬ (ts.length : Int) ≤ i := by omega
        simp! [n1, n2, ea]
        refine hw _ _ _ (by omega) fun s1 s2 => ?_
        rw [jl_in hi.1 et] at e
        by_cases hh : ∀ y ∈ (ts[i.toNat]).1, y ∈ k
        · rw [if_pos hh] at e
          rw [decide_eq_true hh]
          simp!
          refine hu _ _ _ (by omega) fun ys s3 s4 sy hy => ?_
          simp!
          refine ih _ ⟨ys, rfl, ?_, fun d h => hd d (List.mem_cons_of_mem _ h), .inr sy.2, fun x hx => ?_⟩
          · rw [← e]
            exact jl_congr fun x => by rw [hy, List.mem_append]
          · rcases (hy x).mp hx with z | z
            · exact hs x z
            · exact List.mem_append_right _ (List.mem_flatMap.mpr ⟨_, hmem, z⟩)
        · rw [if_neg hh] at e
          rw [decide_eq_false hh]
          simp!
          rw [← e] at q
          exact q
      · rw [jl_out hi] at e
        rw [← e] at q
        by_cases h0 : i < 0
        · simp! [h0]
          exact q
        · have n2 : (ts.length : Int) ≤ i := by omega
          simp! [h0, n2]
          exact q
    · have e : false = _ := e
      rw [← e] at q
      simp!
      exact q
    · have e : false = _ := e
      rw [← e] at q
      simp!
      exact q
  · rintro fr ⟨k, rfl, e, hd, hk, hs⟩
    simp!
    refine hw _ _ _ (by omega) fun s1 s2 => ?_
    simp!
    rw [← jl_nil (ts := ts), e]
    exact q
end QL
set_option maxHeartbeats 1500000
namespace QL
open PySem L2
local macro_rules
  | `(tactic| simp! [$args,*]) => `(tactic| simp only [frz_b, wE_k, wE_v, kV_v, kV_o, wE_fz, kFz_v, kFz_t, kFz_b, kFzB_v, kFzB_o, wEs_n, wEs_c, kCons_v, kCons_t, kCons_b, kPush_, wE_op, kOp_, wE_mt, kMt_v, kMt_t, kMt_b, wE_sl2, kS1_v, kS1_t, kS1_b, kS2_v, kS2_t, kS2_b, kS2i_i, kS3_v, kS3_t, kS3_b, kS3i_i, kRd_v, kRd_t, kRd_b, wE_and, kAnd_v, kAnd_t, kAnd_b, kAndB_, wE_or, kOr_v, kOr_t, kOr_b, kOrB_, wE_not, kNot_v, kNot_t, kNot_b, kNotB_, wE_ife, kIfe_, wE_tup, kTup_, wE_lst, kLst_, wZ_n, wZ_c, kZ_v, kZ_t, kZ_b, kZB_v, kZB_o, kZp_, wE_call, kCall_, kCallS_, kOut_v, kOut_t, kOut_b, kGb_, argSls_n, argSls_c, kSlc_, argSl_v, argSl_t, argSl_b, kAs_v, kAs_o, bors_n, bors_v, bors_t, bors_b, gb_n, gb_v, gb_t, gb_o, kGv_, gb_w, kGw_, wE_lc, kLc_, kLcD_, kLcI_, kLcE_, lcT_, kTu_, wO_n, wO_s, kTc_, kTe_v, kTe_t, kTe_b, kTeB_v, kTeB_o, wE_ssc, kSsc_, kSscD_, kSscI_, sscT_, kTsu_, kTsc_, kTse_v, op_add, op_sub, op_mul, op_fdiv, op_mod, op_pow, op_shl, op_shr, op_neg, op_eq, op_ne, op_lt, op_le, op_gt, op_ge, op_isin, op_notin, op_isN, op_notN, op_len, op_toInt, op_toList, op_toTup, op_sum, op_max1, op_min1, op_any, op_all, op_sorted, op_max2, op_min2, op_ix, op_slAll, op_slLo, op_slHi, op_join, op_dget2, op_setIx, op_sortSet, op_slRev, op_lrng, op_indexL, op_indexT, op_isi, kDer_, derefs_n, derefs_c, kDc_, deref_v, deref_t, deref_b, kDb_v, kDb_o, op_pop, kPop_, kPopL_, op_append, kApp_, op_insert, kIns_, op_reverse, kRev_, rd_add, rd_mul, rd_eq, rd_ne, rd_lt, rd_gt, rd_ix, rd_slLo, rd_slHi, rd_join, rd_indexL, rd_indexT, rd_isN, rd_notN, rd_len, rd_toInt, rd_toList, rd_toTup, rd_any, rd_all, rd_max1, rd_min1, rd_sum, rd_sorted, rd_sortSet, rd_slRev, rd_lrng, rd_sub, rd_fdiv, rd_mod, rd_pow, rd_shl, rd_shr, rd_le, rd_ge, rd_max2, rd_min2, rd_neg, rd_isin, rd_notin, rd_slAll, rd_isi, add_i, add_s, add_l, add_t, mul_i, mul_s, eq_, lt_i, lt_s, gt_i, gt_s, in_l, in_t, isN_non, isN_bl, isN_int, isN_str, isN_tup, isN_lst, isN_dct, len_lst, len_tup, len_frl, len_str, toInt_i, toInt_b, toList_l, toList_t, toTup_l, toTup_t, rev_l, rev_t, lrng_, ix_l, ix_t, ix_s, kIx_, kIxC_, slLo_, slHi_, sl_l, sl_t, sl_s, mtTy_l, mtTy_t, mtTy_s, isi_non_int, isi_bl_int, isi_int_int, isi_str_int, isi_tup_int, isi_lst_int, isi_dct_int, isi_non_bool, isi_bl_bool, isi_int_bool, isi_str_bool, isi_tup_bool, isi_lst_bool, isi_dct_bool, isi_non_str, isi_bl_str, isi_int_str, isi_str_str, isi_tup_str, isi_lst_str, isi_dct_str, isi_non_tuple, isi_bl_tuple, isi_int_tuple, isi_str_tuple, isi_tup_tuple, isi_lst_tuple, isi_dct_tuple, isi_non_list, isi_bl_list, isi_int_list, isi_str_list, isi_tup_list, isi_lst_list, isi_dct_list, isi_non_tuplelist, isi_bl_tuplelist, isi_int_tuplelist, isi_str_tuplelist, isi_tup_tuplelist, isi_lst_tuplelist, isi_dct_tuplelist, isi_non_intstr, isi_bl_intstr, isi_int_intstr, isi_str_intstr, isi_tup_intstr, isi_lst_intstr, isi_dct_intstr, wT_k, wT_v, wT_op, wT_call, wT_and, wT_or, wT_not, kTAnd_, kTOr_, kTNot_, kTr_v, kTr_t, kTr_b, kTru_, kTruB_, tr_non, tr_bl, tr_int, tr_str, tr_tup, tr_lst, wI_seq, kSeq_v, kSeq_t, kSeq_b, wI_enum, kEnum_v, kEnum_t, kEnum_b, wI_rng1, kR1_v, kR1_t, kR1_b, kR1i_, wI_rng2, kR2_v, kR2_t, kR2_b, kR2b_v, kR2b_t, kR2b_b, kR2i_, wI_zip, kZip_v, kZip_t, kZip_b, kZip2_v, kZip2_t, kZip2_b, sd_seq, sd_enum, sd_rng, sd_zip, kM1_, kM2_, it_seq_n, it_rng_n, it_seq_t, it_rng_t, it_enl_t, it_ent_t, it_zpl_t, it_zpt_t, it_seq_u, it_rng_u, it_enl_u, it_ent_u, it_zpl_u, it_zpt_u, sqi_l, sqi_t, sqi_f, fz_seq, fz_enum, fz_rng, fz_zvv, kFq_, frz_v, frz_t, kFb_v, kFb_o, wSs_n, wSs_c, wSs_g, wSs_z, kFrz_v, kFrz_o, seqE_nx, seqE_rt, seqE_bk, seqE_ct, topE_nx, topE_rt, outF_, nrm_v, nrm_n, nrm_o, fgtF_n, fgtF_c, fg1_z, fg1_s, fgS_n, fgS_v, fgS_o, fgS_b, wS_set, kSet_tn, kSet_tt, kSet_tu, kSet_v, kSet_b, kSetB_v, kSetB_o, kPutE_, asgT_n, asgT_t, asgT_u, asgAll_n, asgAll_c, kA2_, putSl_, kPut_n, kPut_v, kPut_o, wS_setLc, kSetLc_, wS_setIx, kX1_v, kX1_t, kX1_b, kX1B_v, kX1B_o, kX2_, kX3_v, kX3_t, kX3_b, kX4_, kX5_, wS_ex, kEx_v, kEx_t, kEx_b, wS_ret, kRet_v, kRet_t, kRet_b, kRetB_v, kRetB_o, wS_retN, wS_aug, kAug_, kAu_v, kAu_t, kAu_b, kAui_a, kAui_s, wS_ite, kIte_, wS_for, kFor_, kForS_, kForD_, kForI_, forGo_n, forGo_c, kForC_, loopE_nx, loopE_ct, loopE_bk, loopE_rt, wS_fof, kFof_, kFofS_, kFofD_, kFofI_, forGoF_n, forGoF_c, kFofC_, loopF_nx, loopF_ct, loopF_bk, loopF_rt, wS_brk, wS_cnt, wS_pass, wipe_n, wipe_c, rest_n, rest_c, getD_z, getD_s, ownB_n, ownB_c, isOwn_, kIo_n, kIo_v, kIo_o, sb_seq, sb_enum, sb_rng, sb_zip, rb_v, rb_t, rb_b, line_ok, line_lt, List.getElem?_cons_zero, List.getElem?_cons_succ, List.getElem?_nil, List.set_cons_zero, List.set_cons_succ, List.take_succ_cons, List.take_zero, List.map_cons, List.map_nil, List.length_cons, List.length_nil, List.length_map, List.nodup_cons, List.nodup_nil, List.not_mem_nil, List.mem_cons, List.mem_singleton, not_false_eq_true, true_and, and_true, and_self, ite_true, ite_false, if_true, if_false, Bool.false_eq_true, Bool.true_eq_false, Bool.not_true, Bool.not_false, Bool.not_not, Bool.and_true, Bool.true_and, Bool.and_false, Bool.false_and, Bool.or_true, Bool.or_false, bne_iff_ne, beq_iff_eq, decide_eq_true_eq, decide_eq_false_iff_not, Bool.not_eq_true', Bool.not_eq_eq_eq_not, List.contains_nil, List.contains_cons, List.cons_append, List.nil_append, List.append_nil, List.replicate_succ, List.replicate_zero, ne_eq, reduceCtorEq, Nat.lt_irrefl, Option.some.injEq, Int.ofNat_eq_natCast, Nat.zero_lt_succ, Nat.add_lt_add_iff_right, Nat.zero_add, decide_true, decide_false, Bool.decide_eq_true, false_or, or_false, Nat.reduceLeDiff, Nat.reduceAdd, Nat.reduceSub, Nat.reduceLT, Nat.reduceEqDiff, Nat.reduceBEq, Nat.reduceMul, Nat.reducePow, Int.reduceLT, Int.reduceLE, Int.reduceNeg, Int.reduceAdd, Int.reduceSub, Int.reduceMul, Int.reducePow, Int.reduceToNat, Int.reduceEq, Int.reduceBEq, Int.reduceNe, reduceIte, decide_not, eq_self, not_true_eq_false, imp_self, Bool.and_self, Bool.or_self, Bool.and_eq_true, Bool.or_eq_true, Bool.or_eq_false_iff, Bool.true_or, Bool.false_or, Bool.false_bne, Bool.bne_false, Bool.bne_true, $args,*])
local macro_rules
  | `(tactic| simp!) => `(tactic| simp only [frz_b, wE_k, wE_v, kV_v, kV_o, wE_fz, kFz_v, kFz_t, kFz_b, kFzB_v, kFzB_o, wEs_n, wEs_c, kCons_v, kCons_t, kCons_b, kPush_, wE_op, kOp_, wE_mt, kMt_v, kMt_t, kMt_b, wE_sl2, kS1_v, kS1_t, kS1_b, kS2_v, kS2_t, kS2_b, kS2i_i, kS3_v, kS3_t, kS3_b, kS3i_i, kRd_v, kRd_t, kRd_b, wE_and, kAnd_v, kAnd_t, kAnd_b, kAndB_, wE_or, kOr_v, kOr_t, kOr_b, kOrB_, wE_not, kNot_v, kNot_t, kNot_b, kNotB_, wE_ife, kIfe_, wE_tup, kTup_, wE_lst, kLst_, wZ_n, wZ_c, kZ_v, kZ_t, kZ_b, kZB_v, kZB_o, kZp_, wE_call, kCall_, kCallS_, kOut_v, kOut_t, kOut_b, kGb_, argSls_n, argSls_c, kSlc_, argSl_v, argSl_t, argSl_b, kAs_v, kAs_o, bors_n, bors_v, bors_t, bors_b, gb_n, gb_v, gb_t, gb_o, kGv_, gb_w, kGw_, wE_lc, kLc_, kLcD_, kLcI_, kLcE_, lcT_, kTu_, wO_n, wO_s, kTc_, kTe_v, kTe_t, kTe_b, kTeB_v, kTeB_o, wE_ssc, kSsc_, kSscD_, kSscI_, sscT_, kTsu_, kTsc_, kTse_v, op_add, op_sub, op_mul, op_fdiv, op_mod, op_pow, op_shl, op_shr, op_neg, op_eq, op_ne, op_lt, op_le, op_gt, op_ge, op_isin, op_notin, op_isN, op_notN, op_len, op_toInt, op_toList, op_toTup, op_sum, op_max1, op_min1, op_any, op_all, op_sorted, op_max2, op_min2, op_ix, op_slAll, op_slLo, op_slHi, op_join, op_dget2, op_setIx, op_sortSet, op_slRev, op_lrng, op_indexL, op_indexT, op_isi, kDer_, derefs_n, derefs_c, kDc_, deref_v, deref_t, deref_b, kDb_v, kDb_o, op_pop, kPop_, kPopL_, op_append, kApp_, op_insert, kIns_, op_reverse, kRev_, rd_add, rd_mul, rd_eq, rd_ne, rd_lt, rd_gt, rd_ix, rd_slLo, rd_slHi, rd_join, rd_indexL, rd_indexT, rd_isN, rd_notN, rd_len, rd_toInt, rd_toList, rd_toTup, rd_any, rd_all, rd_max1, rd_min1, rd_sum, rd_sorted, rd_sortSet, rd_slRev, rd_lrng, rd_sub, rd_fdiv, rd_mod, rd_pow, rd_shl, rd_shr, rd_le, rd_ge, rd_max2, rd_min2, rd_neg, rd_isin, rd_notin, rd_slAll, rd_isi, add_i, add_s, add_l, add_t, mul_i, mul_s, eq_, lt_i, lt_s, gt_i, gt_s, in_l, in_t, isN_non, isN_bl, isN_int, isN_str, isN_tup, isN_lst, isN_dct, len_lst, len_tup, len_frl, len_str, toInt_i, toInt_b, toList_l, toList_t, toTup_l, toTup_t, rev_l, rev_t, lrng_, ix_l, ix_t, ix_s, kIx_, kIxC_, slLo_, slHi_, sl_l, sl_t, sl_s, mtTy_l, mtTy_t, mtTy_s, isi_non_int, isi_bl_int, isi_int_int, isi_str_int, isi_tup_int, isi_lst_int, isi_dct_int, isi_non_bool, isi_bl_bool, isi_int_bool, isi_str_bool, isi_tup_bool, isi_lst_bool, isi_dct_bool, isi_non_str, isi_bl_str, isi_int_str, isi_str_str, isi_tup_str, isi_lst_str, isi_dct_str, isi_non_tuple, isi_bl_tuple, isi_int_tuple, isi_str_tuple, isi_tup_tuple, isi_lst_tuple, isi_dct_tuple, isi_non_list, isi_bl_list, isi_int_list, isi_str_list, isi_tup_list, isi_lst_list, isi_dct_list, isi_non_tuplelist, isi_bl_tuplelist, isi_int_tuplelist, isi_str_tuplelist, isi_tup_tuplelist, isi_lst_tuplelist, isi_dct_tuplelist, isi_non_intstr, isi_bl_intstr, isi_int_intstr, isi_str_intstr, isi_tup_intstr, isi_lst_intstr, isi_dct_intstr, wT_k, wT_v, wT_op, wT_call, wT_and, wT_or, wT_not, kTAnd_, kTOr_, kTNot_, kTr_v, kTr_t, kTr_b, kTru_, kTruB_, tr_non, tr_bl, tr_int, tr_str, tr_tup, tr_lst, wI_seq, kSeq_v, kSeq_t, kSeq_b, wI_enum, kEnum_v, kEnum_t, kEnum_b, wI_rng1, kR1_v, kR1_t, kR1_b, kR1i_, wI_rng2, kR2_v, kR2_t, kR2_b, kR2b_v, kR2b_t, kR2b_b, kR2i_, wI_zip, kZip_v, kZip_t, kZip_b, kZip2_v, kZip2_t, kZip2_b, sd_seq, sd_enum, sd_rng, sd_zip, kM1_, kM2_, it_seq_n, it_rng_n, it_seq_t, it_rng_t, it_enl_t, it_ent_t, it_zpl_t, it_zpt_t, it_seq_u, it_rng_u, it_enl_u, it_ent_u, it_zpl_u, it_zpt_u, sqi_l, sqi_t, sqi_f, fz_seq, fz_enum, fz_rng, fz_zvv, kFq_, frz_v, frz_t, kFb_v, kFb_o, wSs_n, wSs_c, wSs_g, wSs_z, kFrz_v, kFrz_o, seqE_nx, seqE_rt, seqE_bk, seqE_ct, topE_nx, topE_rt, outF_, nrm_v, nrm_n, nrm_o, fgtF_n, fgtF_c, fg1_z, fg1_s, fgS_n, fgS_v, fgS_o, fgS_b, wS_set, kSet_tn, kSet_tt, kSet_tu, kSet_v, kSet_b, kSetB_v, kSetB_o, kPutE_, asgT_n, asgT_t, asgT_u, asgAll_n, asgAll_c, kA2_, putSl_, kPut_n, kPut_v, kPut_o, wS_setLc, kSetLc_, wS_setIx, kX1_v, kX1_t, kX1_b, kX1B_v, kX1B_o, kX2_, kX3_v, kX3_t, kX3_b, kX4_, kX5_, wS_ex, kEx_v, kEx_t, kEx_b, wS_ret, kRet_v, kRet_t, kRet_b, kRetB_v, kRetB_o, wS_retN, wS_aug, kAug_, kAu_v, kAu_t, kAu_b, kAui_a, kAui_s, wS_ite, kIte_, wS_for, kFor_, kForS_, kForD_, kForI_, forGo_n, forGo_c, kForC_, loopE_nx, loopE_ct, loopE_bk, loopE_rt, wS_fof, kFof_, kFofS_, kFofD_, kFofI_, forGoF_n, forGoF_c, kFofC_, loopF_nx, loopF_ct, loopF_bk, loopF_rt, wS_brk, wS_cnt, wS_pass, wipe_n, wipe_c, rest_n, rest_c, getD_z, getD_s, ownB_n, ownB_c, isOwn_, kIo_n, kIo_v, kIo_o, sb_seq, sb_enum, sb_rng, sb_zip, rb_v, rb_t, rb_b, line_ok, line_lt, List.getElem?_cons_zero, List.getElem?_cons_succ, List.getElem?_nil, List.set_cons_zero, List.set_cons_succ, List.take_succ_cons, List.take_zero, List.map_cons, List.map_nil, List.length_cons, List.length_nil, List.length_map, List.nodup_cons, List.nodup_nil, List.not_mem_nil, List.mem_cons, List.mem_singleton, not_false_eq_true, true_and, and_true, and_self, ite_true, ite_false, if_true, if_false, Bool.false_eq_true, Bool.true_eq_false, Bool.not_true, Bool.not_false, Bool.not_not, Bool.and_true, Bool.true_and, Bool.and_false, Bool.false_and, Bool.or_true, Bool.or_false, bne_iff_ne, beq_iff_eq, decide_eq_true_eq, decide_eq_false_iff_not, Bool.not_eq_true', Bool.not_eq_eq_eq_not, List.contains_nil, List.contains_cons, List.cons_append, List.nil_append, List.append_nil, List.replicate_succ, List.replicate_zero, ne_eq, reduceCtorEq, Nat.lt_irrefl, Option.some.injEq, Int.ofNat_eq_natCast, Nat.zero_lt_succ, Nat.add_lt_add_iff_right, Nat.zero_add, decide_true, decide_false, Bool.decide_eq_true, false_or, or_false, Nat.reduceLeDiff, Nat.reduceAdd, Nat.reduceSub, Nat.reduceLT, Nat.reduceEqDiff, Nat.reduceBEq, Nat.reduceMul, Nat.reducePow, Int.reduceLT, Int.reduceLE, Int.reduceNeg, Int.reduceAdd, Int.reduceSub, Int.reduceMul, Int.reducePow, Int.reduceToNat, Int.reduceEq, Int.reduceBEq, Int.reduceNe, reduceIte, decide_not, eq_self, not_true_eq_false, imp_self, Bool.and_self, Bool.or_self, Bool.and_eq_true, Bool.or_eq_true, Bool.or_eq_false_iff, Bool.true_or, Bool.false_or, Bool.false_bne, Bool.bne_false, Bool.bne_true])
local macro_rules
  | `(tactic| simp! at $h:ident) => `(tactic| simp only [frz_b, wE_k, wE_v, kV_v, kV_o, wE_fz, kFz_v, kFz_t, kFz_b, kFzB_v, kFzB_o, wEs_n, wEs_c, kCons_v, kCons_t, kCons_b, kPush_, wE_op, kOp_, wE_mt, kMt_v, kMt_t, kMt_b, wE_sl2, kS1_v, kS1_t, kS1_b, kS2_v, kS2_t, kS2_b, kS2i_i, kS3_v, kS3_t, kS3_b, kS3i_i, kRd_v, kRd_t, kRd_b, wE_and, kAnd_v, kAnd_t, kAnd_b, kAndB_, wE_or, kOr_v, kOr_t, kOr_b, kOrB_, wE_not, kNot_v, kNot_t, kNot_b, kNotB_, wE_ife, kIfe_, wE_tup, kTup_, wE_lst, kLst_, wZ_n, wZ_c, kZ_v, kZ_t, kZ_b, kZB_v, kZB_o, kZp_, wE_call, kCall_, kCallS_, kOut_v, kOut_t, kOut_b, kGb_, argSls_n, argSls_c, kSlc_, argSl_v, argSl_t, argSl_b, kAs_v, kAs_o, bors_n, bors_v, bors_t, bors_b, gb_n, gb_v, gb_t, gb_o, kGv_, gb_w, kGw_, wE_lc, kLc_, kLcD_, kLcI_, kLcE_, lcT_, kTu_, wO_n, wO_s, kTc_, kTe_v, kTe_t, kTe_b, kTeB_v, kTeB_o, wE_ssc, kSsc_, kSscD_, kSscI_, sscT_, kTsu_, kTsc_, kTse_v, op_add, op_sub, op_mul, op_fdiv, op_mod, op_pow, op_shl, op_shr, op_neg, op_eq, op_ne, op_lt, op_le, op_gt, op_ge, op_isin, op_notin, op_isN, op_notN, op_len, op_toInt, op_toList, op_toTup, op_sum, op_max1, op_min1, op_any, op_all, op_sorted, op_max2, op_min2, op_ix, op_slAll, op_slLo, op_slHi, op_join, op_dget2, op_setIx, op_sortSet, op_slRev, op_lrng, op_indexL, op_indexT, op_isi, kDer_, derefs_n, derefs_c, kDc_, deref_v, deref_t, deref_b, kDb_v, kDb_o, op_pop, kPop_, kPopL_, op_append, kApp_, op_insert, kIns_, op_reverse, kRev_, rd_add, rd_mul, rd_eq, rd_ne, rd_lt, rd_gt, rd_ix, rd_slLo, rd_slHi, rd_join, rd_indexL, rd_indexT, rd_isN, rd_notN, rd_len, rd_toInt, rd_toList, rd_toTup, rd_any, rd_all, rd_max1, rd_min1, rd_sum, rd_sorted, rd_sortSet, rd_slRev, rd_lrng, rd_sub, rd_fdiv, rd_mod, rd_pow, rd_shl, rd_shr, rd_le, rd_ge, rd_max2, rd_min2, rd_neg, rd_isin, rd_notin, rd_slAll, rd_isi, add_i, add_s, add_l, add_t, mul_i, mul_s, eq_, lt_i, lt_s, gt_i, gt_s, in_l, in_t, isN_non, isN_bl, isN_int, isN_str, isN_tup, isN_lst, isN_dct, len_lst, len_tup, len_frl, len_str, toInt_i, toInt_b, toList_l, toList_t, toTup_l, toTup_t, rev_l, rev_t, lrng_, ix_l, ix_t, ix_s, kIx_, kIxC_, slLo_, slHi_, sl_l, sl_t, sl_s, mtTy_l, mtTy_t, mtTy_s, isi_non_int, isi_bl_int, isi_int_int, isi_str_int, isi_tup_int, isi_lst_int, isi_dct_int, isi_non_bool, isi_bl_bool, isi_int_bool, isi_str_bool, isi_tup_bool, isi_lst_bool, isi_dct_bool, isi_non_str, isi_bl_str, isi_int_str, isi_str_str, isi_tup_str, isi_lst_str, isi_dct_str, isi_non_tuple, isi_bl_tuple, isi_int_tuple, isi_str_tuple, isi_tup_tuple, isi_lst_tuple, isi_dct_tuple, isi_non_list, isi_bl_list, isi_int_list, isi_str_list, isi_tup_list, isi_lst_list, isi_dct_list, isi_non_tuplelist, isi_bl_tuplelist, isi_int_tuplelist, isi_str_tuplelist, isi_tup_tuplelist, isi_lst_tuplelist, isi_dct_tuplelist, isi_non_intstr, isi_bl_intstr, isi_int_intstr, isi_str_intstr, isi_tup_intstr, isi_lst_intstr, isi_dct_intstr, wT_k, wT_v, wT_op, wT_call, wT_and, wT_or, wT_not, kTAnd_, kTOr_, kTNot_, kTr_v, kTr_t, kTr_b, kTru_, kTruB_, tr_non, tr_bl, tr_int, tr_str, tr_tup, tr_lst, wI_seq, kSeq_v, kSeq_t, kSeq_b, wI_enum, kEnum_v, kEnum_t, kEnum_b, wI_rng1, kR1_v, kR1_t, kR1_b, kR1i_, wI_rng2, kR2_v, kR2_t, kR2_b, kR2b_v, kR2b_t, kR2b_b, kR2i_, wI_zip, kZip_v, kZip_t, kZip_b, kZip2_v, kZip2_t, kZip2_b, sd_seq, sd_enum, sd_rng, sd_zip, kM1_, kM2_, it_seq_n, it_rng_n, it_seq_t, it_rng_t, it_enl_t, it_ent_t, it_zpl_t, it_zpt_t, it_seq_u, it_rng_u, it_enl_u, it_ent_u, it_zpl_u, it_zpt_u, sqi_l, sqi_t, sqi_f, fz_seq, fz_enum, fz_rng, fz_zvv, kFq_, frz_v, frz_t, kFb_v, kFb_o, wSs_n, wSs_c, wSs_g, wSs_z, kFrz_v, kFrz_o, seqE_nx, seqE_rt, seqE_bk, seqE_ct, topE_nx, topE_rt, outF_, nrm_v, nrm_n, nrm_o, fgtF_n, fgtF_c, fg1_z, fg1_s, fgS_n, fgS_v, fgS_o, fgS_b, wS_set, kSet_tn, kSet_tt, kSet_tu, kSet_v, kSet_b, kSetB_v, kSetB_o, kPutE_, asgT_n, asgT_t, asgT_u, asgAll_n, asgAll_c, kA2_, putSl_, kPut_n, kPut_v, kPut_o, wS_setLc, kSetLc_, wS_setIx, kX1_v, kX1_t, kX1_b, kX1B_v, kX1B_o, kX2_, kX3_v, kX3_t, kX3_b, kX4_, kX5_, wS_ex, kEx_v, kEx_t, kEx_b, wS_ret, kRet_v, kRet_t, kRet_b, kRetB_v, kRetB_o, wS_retN, wS_aug, kAug_, kAu_v, kAu_t, kAu_b, kAui_a, kAui_s, wS_ite, kIte_, wS_for, kFor_, kForS_, kForD_, kForI_, forGo_n, forGo_c, kForC_, loopE_nx, loopE_ct, loopE_bk, loopE_rt, wS_fof, kFof_, kFofS_, kFofD_, kFofI_, forGoF_n, forGoF_c, kFofC_, loopF_nx, loopF_ct, loopF_bk, loopF_rt, wS_brk, wS_cnt, wS_pass, wipe_n, wipe_c, rest_n, rest_c, getD_z, getD_s, ownB_n, ownB_c, isOwn_, kIo_n, kIo_v, kIo_o, sb_seq, sb_enum, sb_rng, sb_zip, rb_v, rb_t, rb_b, line_ok, line_lt, List.getElem?_cons_zero, List.getElem?_cons_succ, List.getElem?_nil, List.set_cons_zero, List.set_cons_succ, List.take_succ_cons, List.take_zero, List.map_cons, List.map_nil, List.length_cons, List.length_nil, List.length_map, List.nodup_cons, List.nodup_nil, List.not_mem_nil, List.mem_cons, List.mem_singleton, not_false_eq_true, true_and, and_true, and_self, ite_true, ite_false, if_true, if_false, Bool.false_eq_true, Bool.true_eq_false, Bool.not_true, Bool.not_false, Bool.not_not, Bool.and_true, Bool.true_and, Bool.and_false, Bool.false_and, Bool.or_true, Bool.or_false, bne_iff_ne, beq_iff_eq, decide_eq_true_eq, decide_eq_false_iff_not, Bool.not_eq_true', Bool.not_eq_eq_eq_not, List.contains_nil, List.contains_cons, List.cons_append, List.nil_append, List.append_nil, List.replicate_succ, List.replicate_zero, ne_eq, reduceCtorEq, Nat.lt_irrefl, Option.some.injEq, Int.ofNat_eq_natCast, Nat.zero_lt_succ, Nat.add_lt_add_iff_right, Nat.zero_add, decide_true, decide_false, Bool.decide_eq_true, false_or, or_false, Nat.reduceLeDiff, Nat.reduceAdd, Nat.reduceSub, Nat.reduceLT, Nat.reduceEqDiff, Nat.reduceBEq, Nat.reduceMul, Nat.reducePow, Int.reduceLT, Int.reduceLE, Int.reduceNeg, Int.reduceAdd, Int.reduceSub, Int.reduceMul, Int.reducePow, Int.reduceToNat, Int.reduceEq, Int.reduceBEq, Int.reduceNe, reduceIte, decide_not, eq_self, not_true_eq_false, imp_self, Bool.and_self, Bool.or_self, Bool.and_eq_true, Bool.or_eq_true, Bool.or_eq_false_iff, Bool.true_or, Bool.false_or, Bool.false_bne, Bool.bne_false, Bool.bne_true] at $h:ident)
/-! ND: lines of the law's own, papers -/
theorem perm_map {α β : Type} {f : α → β} {ys : List β} {xs : List α} (h : ys.Perm (xs.map f)) : ∃ zs : List α, ys = zs.map f ∧ zs.Perm xs := by
  have key : ∀ (a b : List β), a.Perm b → ∀ xs : List α, b = xs.map f → ∃ zs : List α, a = zs.map f ∧ zs.Perm xs := by
    intro a b p
    induction p with
    | nil => intro xs e; exact ⟨[], rfl, by cases xs with
      | nil => exact .refl _
      | cons x r => cases e⟩
    | cons x p ih =>
      intro xs e
      cases xs with
      | nil => cases e
      | cons y r =>
        cases e
        obtain ⟨zs, rfl, q⟩ := ih r rfl
        exact ⟨y :: zs, rfl, q.cons y⟩
    | swap x y l =>
      intro xs e
      match xs, e with
      | a :: b :: r, e =>
        cases e
        exact ⟨b :: a :: r, rfl, .swap a b r⟩
    | trans p1 p2 ih1 ih2 =>
      intro xs e
      obtain ⟨zs, e2, q⟩ := ih2 xs e
      obtain ⟨ws, e3, q2⟩ := ih1 zs e2
      exact ⟨ws, e3, q2.trans q⟩
  exact key _ _ h xs rfl
def AreOk (C : WC) (i : Nat) : Prop := ∀ (ts : List Tie) (t : Tie) (ls : List D) (Q : Rf → List Sl → Prop), TOk ts → t.1.length ≤ 12 → t.2.length ≤ 340 → ls.length ≤ 600 → (∀ d ∈ ls, LD d) →
  Q (.val (.bl (jl ts t.2 t.1 ls))) [.none, .none, .none] → C i [.val (tiesD ts), .val (tieD t), .val (.tup ls)] Q
theorem ix0 {a b : D} : atI [a, b] 0 = some a := rfl
theorem ix1 {a b : D} : atI [a, b] 1 = some b := rfl
theorem line5 {n : Nat} (h : n ≤ 10000) : n ≤ sizeLine := by rw [sizeLine_eq]; omega
theorem are_ok {C : WC} {w : Nat} (hw : WitOk C w) {ts : List Tie} {t : Tie} {ls : List D} {Q : Rf → List Sl → Prop} (ht : TOk ts) (h1 : t.1.length ≤ 12) (h2 : t.2.length ≤ 340) (hl : ls.length ≤ 600) (hd : ∀ d ∈ ls, LD d)
    (q : Q (.val (.bl (jl ts t.2 t.1 ls))) [.none, .none, .none]) : wSs C (b_law_are_lines w) [.val (tiesD ts), .val (tieD t), .val (.tup ls), .none, .none] (topE 3 Q) := by
  unfold b_law_are_lines
  simp! [ix0]
  refine fof_indD (I := fun us fr => ∃ k : List Str, fr = [.val (tiesD ts), .val (tieD t), .val (.tup ls), .val (lS k), .none] ∧ jl ts t.2 k us = jl ts t.2 t.1 ls ∧ (∀ d ∈ us, LD d) ∧ k.length + us.length * 12 ≤ 8000) ?_ ?_ ⟨t.1, rfl, rfl, hd, by omega⟩
  · rintro x r fr ⟨k, rfl, e, hd, hk⟩ ih
    rw [List.length_cons] at hk
    have hx := hd x List.mem_cons_self
    rcases hx with ⟨i, rfl⟩ | ⟨y, rfl⟩ | ⟨ys, rfl⟩
    · by_cases hi : 0 ≤ i ∧ i < ts.length
      · have hlt : i.toNat < ts.length := by omega
        have et := List.getElem?_eq_getElem hlt
        have hmem := List.getElem_mem hlt
        have sd := ht.sides _ hmem
        have ea : atI (ts.map tieD) i = some (tieD ts[i.toNat]) := atI_some hi.1 (by rw [List.getElem?_map, et]; rfl)
        have n1 : ¬ i < 0 := by omega
        have n2 : ¬ (ts.length : Int) ≤ i := by omega
        simp! [n1, n2, ea, ix0, ix1]
        refine hw _ _ _ _ (.inr rfl) (by omega) fun s1 s2 => ?_
        rw [jl_in hi.1 et] at e
        by_cases hh : ∀ y ∈ (ts[i.toNat]).1, y ∈ k
        · rw [if_pos hh] at e
          rw [decide_eq_true hh]
          simp! [n1, n2, ea, ix0, ix1]
          refine ⟨line5 (by omega), ?_⟩
          rw [← List.map_append]
          exact ih _ ⟨_, rfl, e, fun d h => hd d (List.mem_cons_of_mem _ h), by rw [List.length_append]; omega⟩
        · rw [if_neg hh] at e
          rw [decide_eq_false hh]
          simp!
          rw [← e] at q
          exact q
      · rw [jl_out hi] at e
        rw [← e] at q
        by_cases h0 : i < 0
        · simp! [h0]
          exact q
        · have n2 : (ts.length : Int) ≤ i := by omega
          simp! [h0, n2]
          exact q
    · have e : false = _ := e
      rw [← e] at q
      simp!
      exact q
    · have e : false = _ := e
      rw [← e] at q
      simp!
      exact q
  · rintro fr ⟨k, rfl, e, hd, hk⟩
    simp! [ix1]
    refine hw _ _ _ _ (.inr rfl) (by omega) fun s1 s2 => ?_
    simp!
    rw [← jl_nil (ts := ts), e]
    exact q
/-- indexes of ties -/
def Ixs (ts : List Tie) (is : List Int) : Prop := ∀ i ∈ is, 0 ≤ i ∧ i < ts.length
theorem ix_tie {ts : List Tie} {i : Int} (h : 0 ≤ i ∧ i < ts.length) : ∃ t ∈ ts, atI (ts.map tieD) i = some (tieD t) ∧ ts[i.toNat]? = some t := by
  have hlt : i.toNat < ts.length := by omega
  have et := List.getElem?_eq_getElem hlt
  exact ⟨_, List.getElem_mem hlt, atI_some h.1 (by rw [List.getElem?_map, et]; rfl), et⟩
abbrev tI (xs : List Int) : D := .tup (xs.map .int)
def OwnOk (C : WC) (i : Nat) : Prop := ∀ (ds : List Int) (ts : List Tie) (t : Tie) (Q : Rf → List Sl → Prop), TOk ts → t.1.length ≤ 12 →
  (∀ (ds : List Int) (is : List Int), Ixs ts is → is.length ≤ 20 → Q (.val (tI is)) [oI ds, .none, .none]) → C i [oI ds, .val (tiesD ts), .val (tieD t)] Q
theorem own_ok {C : WC} {w s : Nat} (hw : WitOk C w) (hs : ShufOk C s) {ds : List Int} {ts : List Tie} {t : Tie} {Q : Rf → List Sl → Prop} (ht : TOk ts) (h1 : t.1.length ≤ 12)
    (q : ∀ (ds : List Int) (is : List Int), Ixs ts is → is.length ≤ 20 → Q (.val (tI is)) [oI ds, .none, .none]) : wSs C (b_law_own_lines w s) [oI ds, .val (tiesD ts), .val (tieD t), .none, .none, .none, .none, .none, .none] (topE 3 Q) := by
  unfold b_law_own_lines
  have tl := ht.len
  simp! [ix0]
  refine (⟨by omega, by omega, ?_⟩)
  refine hs _ _ _ _ (.inl rfl) (by simp; omega) fun ds2 ys s1 p => ?_
  obtain ⟨left, rfl, pl⟩ : ∃ left : List Int, ys = left.map .int ∧ Ixs ts left := by
    have e : (List.range (ts.length : Int).toNat).map (fun (i : Nat) => D.int ((0 : Int) + i)) = ((List.range ts.length).map fun (i : Nat) => (i : Int)).map D.int := by
      simp
    rw [e] at p
    obtain ⟨zs, rfl, pz⟩ := perm_map p
    refine ⟨zs, rfl, fun i hi => ?_⟩
    obtain ⟨j, hj, rfl⟩ := List.mem_map.mp (pz.mem_iff.mp hi)
    have := List.mem_range.mp hj
    omega
  simp!
  refine ⟨by omega, ?_⟩
  rw [rng0_map]
  refine fof_ind (I := fun us fr => ∃ (k : List Str) (left is : List Int), fr = [oI ds2, .val (tiesD ts), .val (tieD t), .val (lS k), .val (.lst (left.map .int)), .own false (.lst (is.map .int)), .none, .none, .none] ∧ Ixs ts left ∧ Ixs ts is ∧ left.length ≤ 20 ∧ is.length + us.length ≤ 20 ∧ k.length + us.length * 12 ≤ 300) ?_ ?_
    ⟨t.1, left, [], rfl, pl, fun i h => (by cases h), ?_, ?_, ?_⟩
  · rintro x r fr ⟨k, left, is, rfl, pl, pi, ll, l1, l2⟩ ih
    rw [List.length_cons] at l1 l2
    simp!
    refine ⟨le_line (by omega), lc_filter D.int (fun i => decide (∃ t, ts[i.toNat]? = some t ∧ ∀ x ∈ t.1, x ∈ k)) D.int rfl (fun i hi K hK => ?_) ?_⟩
    · obtain ⟨t', tm, e1, e2⟩ := ix_tie (pl i hi)
      have sd := ht.sides _ tm
      simp! [e1, ix0]
      refine hw _ _ _ _ (.inr rfl) (by omega) fun s1 s2 => ?_
      have eb : decide (∃ t, ts[i.toNat]? = some t ∧ ∀ x ∈ t.1, x ∈ k) = decide (∀ x ∈ t'.1, x ∈ k) := by
        rw [e2]; simp
      rw [eb] at hK
      generalize hb : decide (∀ x ∈ t'.1, x ∈ k) = b at hK ⊢
      cases b
      · simp!
        exact hK _ rfl
      · simp!
        exact hK _ rfl
    · simp!
      generalize hf : left.filter (fun i => decide (∃ t, ts[i.toNat]? = some t ∧ ∀ x ∈ t.1, x ∈ k)) = fit
      have pf : Ixs ts fit := fun i hi => pl i (by rw [← hf] at hi; exact (List.mem_filter.mp hi).1)
      cases fit with
      | nil =>
        simp! [eqvD_int, pl_int]
        exact q _ _ pi (by omega)
      | cons f fs =>
        obtain ⟨t', tm, e1, e2⟩ := ix_tie (pf f List.mem_cons_self)
        have sd := ht.sides _ tm
        have n0 : ¬ ((fs.length : Int) + 1 = 0) := by omega
        have a0 : atI (D.int f :: fs.map .int) 0 = some (.int f) := atI_some (by decide) rfl
        simp! [eqvD_int, pl_int, Int.natCast_add, Int.natCast_one, n0, a0, e1, ix1]
        refine ⟨?_, ?_⟩
        · exact Nat.lt_of_lt_of_le (show is.length < 1000 by omega) (Nat.le_of_lt (small1000 (by decide)))
        refine ⟨le_line (by omega), ?_⟩
        refine ⟨le_line (by omega), lc_filter D.int (fun i => !decide (i = f)) D.int rfl (fun i hi K hK => ?_) ?_⟩
        · generalize hb : decide (i = f) = b at hK
          simp! [a0, eqvD_int, pl_int, hb]
          cases b
          · simp!
            exact hK _ rfl
          · simp!
            exact hK _ rfl
        · simp!
          rw [← List.map_append, show List.map D.int is ++ [D.int f] = List.map D.int (is ++ [f]) by simp]
          refine ih _ ⟨_, _, is ++ [f], rfl, fun i hi => pl i (List.mem_filter.mp hi).1, fun i hi => ?_, Nat.le_trans (List.length_filter_le ..) ll, ?_, ?_⟩
          · rcases List.mem_append.mp hi with z | z
            · exact pi i z
            · cases List.mem_singleton.mp z
              exact pf f List.mem_cons_self
          · (rw [List.length_append]; simp; omega)
          · rw [List.length_append]; omega
  · rintro fr ⟨k, left, is, rfl, pl, pi, ll, l1, l2⟩
    simp!
    exact q _ _ pi (by simpa using l1)
  · have := p.length_eq
    simp at this
    omega
  · simp; omega
  · simp; omega
end QL
set_option maxHeartbeats 1500000
namespace QL
open PySem L2
local macro_rules
  | `(tactic| simp! [$args,*]) => `(tactic| simp only [frz_b, wE_k, wE_v, kV_v, kV_o, wE_fz, kFz_v, kFz_t, kFz_b, kFzB_v, kFzB_o, wEs_n, wEs_c, kCons_v, kCons_t, kCons_b, kPush_, wE_op, kOp_, wE_mt, kMt_v, kMt_t, kMt_b, wE_sl2, kS1_v, kS1_t, kS1_b, kS2_v, kS2_t, kS2_b, kS2i_i, kS3_v, kS3_t, kS3_b, kS3i_i, kRd_v, kRd_t, kRd_b, wE_and, kAnd_v, kAnd_t, kAnd_b, kAndB_, wE_or, kOr_v, kOr_t, kOr_b, kOrB_, wE_not, kNot_v, kNot_t, kNot_b, kNotB_, wE_ife, kIfe_, wE_tup, kTup_, wE_lst, kLst_, wZ_n, wZ_c, kZ_v, kZ_t, kZ_b, kZB_v, kZB_o, kZp_, wE_call, kCall_, kCallS_, kOut_v, kOut_t, kOut_b, kGb_, argSls_n, argSls_c, kSlc_, argSl_v, argSl_t, argSl_b, kAs_v, kAs_o, bors_n, bors_v, bors_t, bors_b, gb_n, gb_v, gb_t, gb_o, kGv_, gb_w, kGw_, wE_lc, kLc_, kLcD_, kLcI_, kLcE_, lcT_, kTu_, wO_n, wO_s, kTc_, kTe_v, kTe_t, kTe_b, kTeB_v, kTeB_o, wE_ssc, kSsc_, kSscD_, kSscI_, sscT_, kTsu_, kTsc_, kTse_v, op_add, op_sub, op_mul, op_fdiv, op_mod, op_pow, op_shl, op_shr, op_neg, op_eq, op_ne, op_lt, op_le, op_gt, op_ge, op_isin, op_notin, op_isN, op_notN, op_len, op_toInt, op_toList, op_toTup, op_sum, op_max1, op_min1, op_any, op_all, op_sorted, op_max2, op_min2, op_ix, op_slAll, op_slLo, op_slHi, op_join, op_dget2, op_setIx, op_sortSet, op_slRev, op_lrng, op_indexL, op_indexT, op_isi, kDer_, derefs_n, derefs_c, kDc_, deref_v, deref_t, deref_b, kDb_v, kDb_o, op_pop, kPop_, kPopL_, op_append, kApp_, op_insert, kIns_, op_reverse, kRev_, rd_add, rd_mul, rd_eq, rd_ne, rd_lt, rd_gt, rd_ix, rd_slLo, rd_slHi, rd_join, rd_indexL, rd_indexT, rd_isN, rd_notN, rd_len, rd_toInt, rd_toList, rd_toTup, rd_any, rd_all, rd_max1, rd_min1, rd_sum, rd_sorted, rd_sortSet, rd_slRev, rd_lrng, rd_sub, rd_fdiv, rd_mod, rd_pow, rd_shl, rd_shr, rd_le, rd_ge, rd_max2, rd_min2, rd_neg, rd_isin, rd_notin, rd_slAll, rd_isi, add_i, add_s, add_l, add_t, mul_i, mul_s, eq_, lt_i, lt_s, gt_i, gt_s, in_l, in_t, isN_non, isN_bl, isN_int, isN_str, isN_tup, isN_lst, isN_dct, len_lst, len_tup, len_frl, len_str, toInt_i, toInt_b, toList_l, toList_t, toTup_l, toTup_t, rev_l, rev_t, lrng_, ix_l, ix_t, ix_s, kIx_, kIxC_, slLo_, slHi_, sl_l, sl_t, sl_s, mtTy_l, mtTy_t, mtTy_s, isi_non_int, isi_bl_int, isi_int_int, isi_str_int, isi_tup_int, isi_lst_int, isi_dct_int, isi_non_bool, isi_bl_bool, isi_int_bool, isi_str_bool, isi_tup_bool, isi_lst_bool, isi_dct_bool, isi_non_str, isi_bl_str, isi_int_str, isi_str_str, isi_tup_str, isi_lst_str, isi_dct_str, isi_non_tuple, isi_bl_tuple, isi_int_tuple, isi_str_tuple, isi_tup_tuple, isi_lst_tuple, isi_dct_tuple, isi_non_list, isi_bl_list, isi_int_list, isi_str_list, isi_tup_list, isi_lst_list, isi_dct_list, isi_non_tuplelist, isi_bl_tuplelist, isi_int_tuplelist, isi_str_tuplelist, isi_tup_tuplelist, isi_lst_tuplelist, isi_dct_tuplelist, isi_non_intstr, isi_bl_intstr, isi_int_intstr, isi_str_intstr, isi_tup_intstr, isi_lst_intstr, isi_dct_intstr, wT_k, wT_v, wT_op, wT_call, wT_and, wT_or, wT_not, kTAnd_, kTOr_, kTNot_, kTr_v, kTr_t, kTr_b, kTru_, kTruB_, tr_non, tr_bl, tr_int, tr_str, tr_tup, tr_lst, wI_seq, kSeq_v, kSeq_t, kSeq_b, wI_enum, kEnum_v, kEnum_t, kEnum_b, wI_rng1, kR1_v, kR1_t, kR1_b, kR1i_, wI_rng2, kR2_v, kR2_t, kR2_b, kR2b_v, kR2b_t, kR2b_b, kR2i_, wI_zip, kZip_v, kZip_t, kZip_b, kZip2_v, kZip2_t, kZip2_b, sd_seq, sd_enum, sd_rng, sd_zip, kM1_, kM2_, it_seq_n, it_rng_n, it_seq_t, it_rng_t, it_enl_t, it_ent_t, it_zpl_t, it_zpt_t, it_seq_u, it_rng_u, it_enl_u, it_ent_u, it_zpl_u, it_zpt_u, sqi_l, sqi_t, sqi_f, fz_seq, fz_enum, fz_rng, fz_zvv, kFq_, frz_v, frz_t, kFb_v, kFb_o, wSs_n, wSs_c, wSs_g, wSs_z, kFrz_v, kFrz_o, seqE_nx, seqE_rt, seqE_bk, seqE_ct, topE_nx, topE_rt, outF_, nrm_v, nrm_n, nrm_o, fgtF_n, fgtF_c, fg1_z, fg1_s, fgS_n, fgS_v, fgS_o, fgS_b, wS_set, kSet_tn, kSet_tt, kSet_tu, kSet_v, kSet_b, kSetB_v, kSetB_o, kPutE_, asgT_n, asgT_t, asgT_u, asgAll_n, asgAll_c, kA2_, putSl_, kPut_n, kPut_v, kPut_o, wS_setLc, kSetLc_, wS_setIx, kX1_v, kX1_t, kX1_b, kX1B_v, kX1B_o, kX2_, kX3_v, kX3_t, kX3_b, kX4_, kX5_, wS_ex, kEx_v, kEx_t, kEx_b, wS_ret, kRet_v, kRet_t, kRet_b, kRetB_v, kRetB_o, wS_retN, wS_aug, kAug_, kAu_v, kAu_t, kAu_b, kAui_a, kAui_s, wS_ite, kIte_, wS_for, kFor_, kForS_, kForD_, kForI_, forGo_n, forGo_c, kForC_, loopE_nx, loopE_ct, loopE_bk, loopE_rt, wS_fof, kFof_, kFofS_, kFofD_, kFofI_, forGoF_n, forGoF_c, kFofC_, loopF_nx, loopF_ct, loopF_bk, loopF_rt, wS_brk, wS_cnt, wS_pass, wipe_n, wipe_c, rest_n, rest_c, getD_z, getD_s, ownB_n, ownB_c, isOwn_, kIo_n, kIo_v, kIo_o, sb_seq, sb_enum, sb_rng, sb_zip, rb_v, rb_t, rb_b, line_ok, line_lt, List.getElem?_cons_zero, List.getElem?_cons_succ, List.getElem?_nil, List.set_cons_zero, List.set_cons_succ, List.take_succ_cons, List.take_zero, List.map_cons, List.map_nil, List.length_cons, List.length_nil, List.length_map, List.nodup_cons, List.nodup_nil, List.not_mem_nil, List.mem_cons, List.mem_singleton, not_false_eq_true, true_and, and_true, and_self, ite_true, ite_false, if_true, if_false, Bool.false_eq_true, Bool.true_eq_false, Bool.not_true, Bool.not_false, Bool.not_not, Bool.and_true, Bool.true_and, Bool.and_false, Bool.false_and, Bool.or_true, Bool.or_false, bne_iff_ne, beq_iff_eq, decide_eq_true_eq, decide_eq_false_iff_not, Bool.not_eq_true', Bool.not_eq_eq_eq_not, List.contains_nil, List.contains_cons, List.cons_append, List.nil_append, List.append_nil, List.replicate_succ, List.replicate_zero, ne_eq, reduceCtorEq, Nat.lt_irrefl, Option.some.injEq, Int.ofNat_eq_natCast, Nat.zero_lt_succ, Nat.add_lt_add_iff_right, Nat.zero_add, decide_true, decide_false, Bool.decide_eq_true, false_or, or_false, Nat.reduceLeDiff, Nat.reduceAdd, Nat.reduceSub, Nat.reduceLT, Nat.reduceEqDiff, Nat.reduceBEq, Nat.reduceMul, Nat.reducePow, Int.reduceLT, Int.reduceLE, Int.reduceNeg, Int.reduceAdd, Int.reduceSub, Int.reduceMul, Int.reducePow, Int.reduceToNat, Int.reduceEq, Int.reduceBEq, Int.reduceNe, reduceIte, decide_not, eq_self, not_true_eq_false, imp_self, Bool.and_self, Bool.or_self, Bool.and_eq_true, Bool.or_eq_true, Bool.or_eq_false_iff, Bool.true_or, Bool.false_or, Bool.false_bne, Bool.bne_false, Bool.bne_true, $args,*])
local macro_rules
  | `(tactic| simp!) => `(tactic| simp only [frz_b, wE_k, wE_v, kV_v, kV_o, wE_fz, kFz_v, kFz_t, kFz_b, kFzB_v, kFzB_o, wEs_n, wEs_c, kCons_v, kCons_t, kCons_b, kPush_, wE_op, kOp_, wE_mt, kMt_v, kMt_t, kMt_b, wE_sl2, kS1_v, kS1_t, kS1_b, kS2_v, kS2_t, kS2_b, kS2i_i, kS3_v, kS3_t, kS3_b, kS3i_i, kRd_v, kRd_t, kRd_b, wE_and, kAnd_v, kAnd_t, kAnd_b, kAndB_, wE_or, kOr_v, kOr_t, kOr_b, kOrB_, wE_not, kNot_v, kNot_t, kNot_b, kNotB_, wE_ife, kIfe_, wE_tup, kTup_, wE_lst, kLst_, wZ_n, wZ_c, kZ_v, kZ_t, kZ_b, kZB_v, kZB_o, kZp_, wE_call, kCall_, kCallS_, kOut_v, kOut_t, kOut_b, kGb_, argSls_n, argSls_c, kSlc_, argSl_v, argSl_t, argSl_b, kAs_v, kAs_o, bors_n, bors_v, bors_t, bors_b, gb_n, gb_v, gb_t, gb_o, kGv_, gb_w, kGw_, wE_lc, kLc_, kLcD_, kLcI_, kLcE_, lcT_, kTu_, wO_n, wO_s, kTc_, kTe_v, kTe_t, kTe_b, kTeB_v, kTeB_o, wE_ssc, kSsc_, kSscD_, kSscI_, sscT_, kTsu_, kTsc_, kTse_v, op_add, op_sub, op_mul, op_fdiv, op_mod, op_pow, op_shl, op_shr, op_neg, op_eq, op_ne, op_lt, op_le, op_gt, op_ge, op_isin, op_notin, op_isN, op_notN, op_len, op_toInt, op_toList, op_toTup, op_sum, op_max1, op_min1, op_any, op_all, op_sorted, op_max2, op_min2, op_ix, op_slAll, op_slLo, op_slHi, op_join, op_dget2, op_setIx, op_sortSet, op_slRev, op_lrng, op_indexL, op_indexT, op_isi, kDer_, derefs_n, derefs_c, kDc_, deref_v, deref_t, deref_b, kDb_v, kDb_o, op_pop, kPop_, kPopL_, op_append, kApp_, op_insert, kIns_, op_reverse, kRev_, rd_add, rd_mul, rd_eq, rd_ne, rd_lt, rd_gt, rd_ix, rd_slLo, rd_slHi, rd_join, rd_indexL, rd_indexT, rd_isN, rd_notN, rd_len, rd_toInt, rd_toList, rd_toTup, rd_any, rd_all, rd_max1, rd_min1, rd_sum, rd_sorted, rd_sortSet, rd_slRev, rd_lrng, rd_sub, rd_fdiv, rd_mod, rd_pow, rd_shl, rd_shr, rd_le, rd_ge, rd_max2, rd_min2, rd_neg, rd_isin, rd_notin, rd_slAll, rd_isi, add_i, add_s, add_l, add_t, mul_i, mul_s, eq_, lt_i, lt_s, gt_i, gt_s, in_l, in_t, isN_non, isN_bl, isN_int, isN_str, isN_tup, isN_lst, isN_dct, len_lst, len_tup, len_frl, len_str, toInt_i, toInt_b, toList_l, toList_t, toTup_l, toTup_t, rev_l, rev_t, lrng_, ix_l, ix_t, ix_s, kIx_, kIxC_, slLo_, slHi_, sl_l, sl_t, sl_s, mtTy_l, mtTy_t, mtTy_s, isi_non_int, isi_bl_int, isi_int_int, isi_str_int, isi_tup_int, isi_lst_int, isi_dct_int, isi_non_bool, isi_bl_bool, isi_int_bool, isi_str_bool, isi_tup_bool, isi_lst_bool, isi_dct_bool, isi_non_str, isi_bl_str, isi_int_str, isi_str_str, isi_tup_str, isi_lst_str, isi_dct_str, isi_non_tuple, isi_bl_tuple, isi_int_tuple, isi_str_tuple, isi_tup_tuple, isi_lst_tuple, isi_dct_tuple, isi_non_list, isi_bl_list, isi_int_list, isi_str_list, isi_tup_list, isi_lst_list, isi_dct_list, isi_non_tuplelist, isi_bl_tuplelist, isi_int_tuplelist, isi_str_tuplelist, isi_tup_tuplelist, isi_lst_tuplelist, isi_dct_tuplelist, isi_non_intstr, isi_bl_intstr, isi_int_intstr, isi_str_intstr, isi_tup_intstr, isi_lst_intstr, isi_dct_intstr, wT_k, wT_v, wT_op, wT_call, wT_and, wT_or, wT_not, kTAnd_, kTOr_, kTNot_, kTr_v, kTr_t, kTr_b, kTru_, kTruB_, tr_non, tr_bl, tr_int, tr_str, tr_tup, tr_lst, wI_seq, kSeq_v, kSeq_t, kSeq_b, wI_enum, kEnum_v, kEnum_t, kEnum_b, wI_rng1, kR1_v, kR1_t, kR1_b, kR1i_, wI_rng2, kR2_v, kR2_t, kR2_b, kR2b_v, kR2b_t, kR2b_b, kR2i_, wI_zip, kZip_v, kZip_t, kZip_b, kZip2_v, kZip2_t, kZip2_b, sd_seq, sd_enum, sd_rng, sd_zip, kM1_, kM2_, it_seq_n, it_rng_n, it_seq_t, it_rng_t, it_enl_t, it_ent_t, it_zpl_t, it_zpt_t, it_seq_u, it_rng_u, it_enl_u, it_ent_u, it_zpl_u, it_zpt_u, sqi_l, sqi_t, sqi_f, fz_seq, fz_enum, fz_rng, fz_zvv, kFq_, frz_v, frz_t, kFb_v, kFb_o, wSs_n, wSs_c, wSs_g, wSs_z, kFrz_v, kFrz_o, seqE_nx, seqE_rt, seqE_bk, seqE_ct, topE_nx, topE_rt, outF_, nrm_v, nrm_n, nrm_o, fgtF_n, fgtF_c, fg1_z, fg1_s, fgS_n, fgS_v, fgS_o, fgS_b, wS_set, kSet_tn, kSet_tt, kSet_tu, kSet_v, kSet_b, kSetB_v, kSetB_o, kPutE_, asgT_n, asgT_t, asgT_u, asgAll_n, asgAll_c, kA2_, putSl_, kPut_n, kPut_v, kPut_o, wS_setLc, kSetLc_, wS_setIx, kX1_v, kX1_t, kX1_b, kX1B_v, kX1B_o, kX2_, kX3_v, kX3_t, kX3_b, kX4_, kX5_, wS_ex, kEx_v, kEx_t, kEx_b, wS_ret, kRet_v, kRet_t, kRet_b, kRetB_v, kRetB_o, wS_retN, wS_aug, kAug_, kAu_v, kAu_t, kAu_b, kAui_a, kAui_s, wS_ite, kIte_, wS_for, kFor_, kForS_, kForD_, kForI_, forGo_n, forGo_c, kForC_, loopE_nx, loopE_ct, loopE_bk, loopE_rt, wS_fof, kFof_, kFofS_, kFofD_, kFofI_, forGoF_n, forGoF_c, kFofC_, loopF_nx, loopF_ct, loopF_bk, loopF_rt, wS_brk, wS_cnt, wS_pass, wipe_n, wipe_c, rest_n, rest_c, getD_z, getD_s, ownB_n, ownB_c, isOwn_, kIo_n, kIo_v, kIo_o, sb_seq, sb_enum, sb_rng, sb_zip, rb_v, rb_t, rb_b, line_ok, line_lt, List.getElem?_cons_zero, List.getElem?_cons_succ, List.getElem?_nil, List.set_cons_zero, List.set_cons_succ, List.take_succ_cons, List.take_zero, List.map_cons, List.map_nil, List.length_cons, List.length_nil, List.length_map, List.nodup_cons, List.nodup_nil, List.not_mem_nil, List.mem_cons, List.mem_singleton, not_false_eq_true, true_and, and_true, and_self, ite_true, ite_false, if_true, if_false, Bool.false_eq_true, Bool.true_eq_false, Bool.not_true, Bool.not_false, Bool.not_not, Bool.and_true, Bool.true_and, Bool.and_false, Bool.false_and, Bool.or_true, Bool.or_false, bne_iff_ne, beq_iff_eq, decide_eq_true_eq, decide_eq_false_iff_not, Bool.not_eq_true', Bool.not_eq_eq_eq_not, List.contains_nil, List.contains_cons, List.cons_append, List.nil_append, List.append_nil, List.replicate_succ, List.replicate_zero, ne_eq, reduceCtorEq, Nat.lt_irrefl, Option.some.injEq, Int.ofNat_eq_natCast, Nat.zero_lt_succ, Nat.add_lt_add_iff_right, Nat.zero_add, decide_true, decide_false, Bool.decide_eq_true, false_or, or_false, Nat.reduceLeDiff, Nat.reduceAdd, Nat.reduceSub, Nat.reduceLT, Nat.reduceEqDiff, Nat.reduceBEq, Nat.reduceMul, Nat.reducePow, Int.reduceLT, Int.reduceLE, Int.reduceNeg, Int.reduceAdd, Int.reduceSub, Int.reduceMul, Int.reducePow, Int.reduceToNat, Int.reduceEq, Int.reduceBEq, Int.reduceNe, reduceIte, decide_not, eq_self, not_true_eq_false, imp_self, Bool.and_self, Bool.or_self, Bool.and_eq_true, Bool.or_eq_true, Bool.or_eq_false_iff, Bool.true_or, Bool.false_or, Bool.false_bne, Bool.bne_false, Bool.bne_true])
local macro_rules
  | `(tactic| simp! at $h:ident) => `(tactic| simp only [frz_b, wE_k, wE_v, kV_v, kV_o, wE_fz, kFz_v, kFz_t, kFz_b, kFzB_v, kFzB_o, wEs_n, wEs_c, kCons_v, kCons_t, kCons_b, kPush_, wE_op, kOp_, wE_mt, kMt_v, kMt_t, kMt_b, wE_sl2, kS1_v, kS1_t, kS1_b, kS2_v, kS2_t, kS2_b, kS2i_i, kS3_v, kS3_t, kS3_b, kS3i_i, kRd_v, kRd_t, kRd_b, wE_and, kAnd_v, kAnd_t, kAnd_b, kAndB_, wE_or, kOr_v, kOr_t, kOr_b, kOrB_, wE_not, kNot_v, kNot_t, kNot_b, kNotB_, wE_ife, kIfe_, wE_tup, kTup_, wE_lst, kLst_, wZ_n, wZ_c, kZ_v, kZ_t, kZ_b, kZB_v, kZB_o, kZp_, wE_call, kCall_, kCallS_, kOut_v, kOut_t, kOut_b, kGb_, argSls_n, argSls_c, kSlc_, argSl_v, argSl_t, argSl_b, kAs_v, kAs_o, bors_n, bors_v, bors_t, bors_b, gb_n, gb_v, gb_t, gb_o, kGv_, gb_w, kGw_, wE_lc, kLc_, kLcD_, kLcI_, kLcE_, lcT_, kTu_, wO_n, wO_s, kTc_, kTe_v, kTe_t, kTe_b, kTeB_v, kTeB_o, wE_ssc, kSsc_, kSscD_, kSscI_, sscT_, kTsu_, kTsc_, kTse_v, op_add, op_sub, op_mul, op_fdiv, op_mod, op_pow, op_shl, op_shr, op_neg, op_eq, op_ne, op_lt, op_le, op_gt, op_ge, op_isin, op_notin, op_isN, op_notN, op_len, op_toInt, op_toList, op_toTup, op_sum, op_max1, op_min1, op_any, op_all, op_sorted, op_max2, op_min2, op_ix, op_slAll, op_slLo, op_slHi, op_join, op_dget2, op_setIx, op_sortSet, op_slRev, op_lrng, op_indexL, op_indexT, op_isi, kDer_, derefs_n, derefs_c, kDc_, deref_v, deref_t, deref_b, kDb_v, kDb_o, op_pop, kPop_, kPopL_, op_append, kApp_, op_insert, kIns_, op_reverse, kRev_, rd_add, rd_mul, rd_eq, rd_ne, rd_lt, rd_gt, rd_ix, rd_slLo, rd_slHi, rd_join, rd_indexL, rd_indexT, rd_isN, rd_notN, rd_len, rd_toInt, rd_toList, rd_toTup, rd_any, rd_all, rd_max1, rd_min1, rd_sum, rd_sorted, rd_sortSet, rd_slRev, rd_lrng, rd_sub, rd_fdiv, rd_mod, rd_pow, rd_shl, rd_shr, rd_le, rd_ge, rd_max2, rd_min2, rd_neg, rd_isin, rd_notin, rd_slAll, rd_isi, add_i, add_s, add_l, add_t, mul_i, mul_s, eq_, lt_i, lt_s, gt_i, gt_s, in_l, in_t, isN_non, isN_bl, isN_int, isN_str, isN_tup, isN_lst, isN_dct, len_lst, len_tup, len_frl, len_str, toInt_i, toInt_b, toList_l, toList_t, toTup_l, toTup_t, rev_l, rev_t, lrng_, ix_l, ix_t, ix_s, kIx_, kIxC_, slLo_, slHi_, sl_l, sl_t, sl_s, mtTy_l, mtTy_t, mtTy_s, isi_non_int, isi_bl_int, isi_int_int, isi_str_int, isi_tup_int, isi_lst_int, isi_dct_int, isi_non_bool, isi_bl_bool, isi_int_bool, isi_str_bool, isi_tup_bool, isi_lst_bool, isi_dct_bool, isi_non_str, isi_bl_str, isi_int_str, isi_str_str, isi_tup_str, isi_lst_str, isi_dct_str, isi_non_tuple, isi_bl_tuple, isi_int_tuple, isi_str_tuple, isi_tup_tuple, isi_lst_tuple, isi_dct_tuple, isi_non_list, isi_bl_list, isi_int_list, isi_str_list, isi_tup_list, isi_lst_list, isi_dct_list, isi_non_tuplelist, isi_bl_tuplelist, isi_int_tuplelist, isi_str_tuplelist, isi_tup_tuplelist, isi_lst_tuplelist, isi_dct_tuplelist, isi_non_intstr, isi_bl_intstr, isi_int_intstr, isi_str_intstr, isi_tup_intstr, isi_lst_intstr, isi_dct_intstr, wT_k, wT_v, wT_op, wT_call, wT_and, wT_or, wT_not, kTAnd_, kTOr_, kTNot_, kTr_v, kTr_t, kTr_b, kTru_, kTruB_, tr_non, tr_bl, tr_int, tr_str, tr_tup, tr_lst, wI_seq, kSeq_v, kSeq_t, kSeq_b, wI_enum, kEnum_v, kEnum_t, kEnum_b, wI_rng1, kR1_v, kR1_t, kR1_b, kR1i_, wI_rng2, kR2_v, kR2_t, kR2_b, kR2b_v, kR2b_t, kR2b_b, kR2i_, wI_zip, kZip_v, kZip_t, kZip_b, kZip2_v, kZip2_t, kZip2_b, sd_seq, sd_enum, sd_rng, sd_zip, kM1_, kM2_, it_seq_n, it_rng_n, it_seq_t, it_rng_t, it_enl_t, it_ent_t, it_zpl_t, it_zpt_t, it_seq_u, it_rng_u, it_enl_u, it_ent_u, it_zpl_u, it_zpt_u, sqi_l, sqi_t, sqi_f, fz_seq, fz_enum, fz_rng, fz_zvv, kFq_, frz_v, frz_t, kFb_v, kFb_o, wSs_n, wSs_c, wSs_g, wSs_z, kFrz_v, kFrz_o, seqE_nx, seqE_rt, seqE_bk, seqE_ct, topE_nx, topE_rt, outF_, nrm_v, nrm_n, nrm_o, fgtF_n, fgtF_c, fg1_z, fg1_s, fgS_n, fgS_v, fgS_o, fgS_b, wS_set, kSet_tn, kSet_tt, kSet_tu, kSet_v, kSet_b, kSetB_v, kSetB_o, kPutE_, asgT_n, asgT_t, asgT_u, asgAll_n, asgAll_c, kA2_, putSl_, kPut_n, kPut_v, kPut_o, wS_setLc, kSetLc_, wS_setIx, kX1_v, kX1_t, kX1_b, kX1B_v, kX1B_o, kX2_, kX3_v, kX3_t, kX3_b, kX4_, kX5_, wS_ex, kEx_v, kEx_t, kEx_b, wS_ret, kRet_v, kRet_t, kRet_b, kRetB_v, kRetB_o, wS_retN, wS_aug, kAug_, kAu_v, kAu_t, kAu_b, kAui_a, kAui_s, wS_ite, kIte_, wS_for, kFor_, kForS_, kForD_, kForI_, forGo_n, forGo_c, kForC_, loopE_nx, loopE_ct, loopE_bk, loopE_rt, wS_fof, kFof_, kFofS_, kFofD_, kFofI_, forGoF_n, forGoF_c, kFofC_, loopF_nx, loopF_ct, loopF_bk, loopF_rt, wS_brk, wS_cnt, wS_pass, wipe_n, wipe_c, rest_n, rest_c, getD_z, getD_s, ownB_n, ownB_c, isOwn_, kIo_n, kIo_v, kIo_o, sb_seq, sb_enum, sb_rng, sb_zip, rb_v, rb_t, rb_b, line_ok, line_lt, List.getElem?_cons_zero, List.getElem?_cons_succ, List.getElem?_nil, List.set_cons_zero, List.set_cons_succ, List.take_succ_cons, List.take_zero, List.map_cons, List.map_nil, List.length_cons, List.length_nil, List.length_map, List.nodup_cons, List.nodup_nil, List.not_mem_nil, List.mem_cons, List.mem_singleton, not_false_eq_true, true_and, and_true, and_self, ite_true, ite_false, if_true, if_false, Bool.false_eq_true, Bool.true_eq_false, Bool.not_true, Bool.not_false, Bool.not_not, Bool.and_true, Bool.true_and, Bool.and_false, Bool.false_and, Bool.or_true, Bool.or_false, bne_iff_ne, beq_iff_eq, decide_eq_true_eq, decide_eq_false_iff_not, Bool.not_eq_true', Bool.not_eq_eq_eq_not, List.contains_nil, List.contains_cons, List.cons_append, List.nil_append, List.append_nil, List.replicate_succ, List.replicate_zero, ne_eq, reduceCtorEq, Nat.lt_irrefl, Option.some.injEq, Int.ofNat_eq_natCast, Nat.zero_lt_succ, Nat.add_lt_add_iff_right, Nat.zero_add, decide_true, decide_false, Bool.decide_eq_true, false_or, or_false, Nat.reduceLeDiff, Nat.reduceAdd, Nat.reduceSub, Nat.reduceLT, Nat.reduceEqDiff, Nat.reduceBEq, Nat.reduceMul, Nat.reducePow, Int.reduceLT, Int.reduceLE, Int.reduceNeg, Int.reduceAdd, Int.reduceSub, Int.reduceMul, Int.reducePow, Int.reduceToNat, Int.reduceEq, Int.reduceBEq, Int.reduceNe, reduceIte, decide_not, eq_self, not_true_eq_false, imp_self, Bool.and_self, Bool.or_self, Bool.and_eq_true, Bool.or_eq_true, Bool.or_eq_false_iff, Bool.true_or, Bool.false_or, Bool.false_bne, Bool.bne_false, Bool.bne_true] at $h:ident)
/-! NE: papers, told lines -/
/-- a good list of a paper -/
def GL (n : Nat) (ls : List D) : Prop := ls.length ≤ n ∧ ∀ d ∈ ls, LD d
theorem GL.app {n m : Nat} {a b : List D} (h : GL n a) (k : GL m b) : GL (n + m) (a ++ b) := ⟨by have := h.1; have := k.1; rw [List.length_append]; omega, fun d hd => (List.mem_append.mp hd).elim (h.2 d) (k.2 d)⟩
theorem GL.le {n m : Nat} {a : List D} (h : GL n a) (l : n ≤ m) : GL m a := ⟨Nat.le_trans h.1 l, h.2⟩
theorem mem_cutD {xs : List D} {lo hi : Option Int} {d : D} (h : d ∈ cutD xs lo hi) : d ∈ xs := List.mem_of_mem_drop (List.mem_of_mem_take h)
theorem cutD_le {xs : List D} {lo hi : Option Int} : (cutD xs lo hi).length ≤ xs.length := by
  unfold cutD
  (rw [List.length_take, List.length_drop])
  omega
theorem GL.cut {n : Nat} {a : List D} (h : GL n a) (lo hi : Option Int) : GL n (cutD a lo hi) := ⟨Nat.le_trans cutD_le h.1, fun d hd => h.2 d (mem_cutD hd)⟩
theorem GL.rev {n : Nat} {a : List D} (h : GL n a) : GL n a.reverse := ⟨by rw [List.length_reverse]; exact h.1, fun d hd => h.2 d (List.mem_reverse.mp hd)⟩
theorem GL.one {d : D} (h : LD d) : GL 1 [d] := ⟨Nat.le_refl _, fun x hx => by cases List.mem_singleton.mp hx; exact h⟩
theorem GL.nil : GL 0 [] := ⟨Nat.le_refl _, fun x hx => by cases hx⟩
def GP (p : D) : Prop := ∃ ls, p = .tup ls ∧ GL 600 ls
def PapOk (C : WC) (i : Nat) : Prop := ∀ (ds : List Int) (ts : List Tie) (is : List Int) (Q : Rf → List Sl → Prop), TOk ts → Ixs ts is → is.length ≤ 240 →
  (∀ (ds : List Int) (ps : List D), (∀ p ∈ ps, GP p) → ps.length ≤ 20 → Q (.tmp (.lst ps)) [oI ds, .none, .none]) → C i [oI ds, .val (tiesD ts), .val (tI is)] Q
theorem ld_int {i : Int} : LD (.int i) := .inl ⟨i, rfl⟩
theorem ld_str {i : Str} : LD (.str i) := .inr (.inl ⟨i, rfl⟩)
theorem ld_tup {i : List D} : LD (.tup i) := .inr (.inr ⟨i, rfl⟩)
theorem gp_of {n : Nat} {ls : List D} (h : GL n ls) (l : n ≤ 600) : GP (.tup ls) := ⟨ls, rfl, h.le l⟩
theorem cpow30 : CPow 10 30 := by
  unfold CPow
  decide
theorem pap_ok {C : WC} {t p : Nat} (ht : TakeOk C t) (hp : PickOk C p) {ds : List Int} {ts : List Tie} {is : List Int} {Q : Rf → List Sl → Prop} (tk : TOk ts) (hi : Ixs ts is) (hl : is.length ≤ 240)
    (q : ∀ (ds : List Int) (ps : List D), (∀ p ∈ ps, GP p) → ps.length ≤ 20 → Q (.tmp (.lst ps)) [oI ds, .none, .none]) : wSs C (b_law_papers t p) [oI ds, .val (tiesD ts), .val (tI is), .none, .none, .none] (topE 3 Q) := by
  have g : GL 240 (is.map D.int) := ⟨by rw [List.length_map]; exact hl, fun d hd => by
    obtain ⟨i, _, rfl⟩ := List.mem_map.mp hd
    exact ld_int⟩
  have cl : ∀ lo hi, (cutD (is.map D.int) lo hi).length ≤ 240 := fun lo hi => (g.cut lo hi).1
  generalize hL : is.map D.int = L at g cl q
  have gS : ∀ {x : D} {n : Int}, x ∈ [D.int (-1), .int n, .int 1000000000000000000000000000000, .str "0", .str "", .tup [.int 0], .tup [], .tup [.str "a", .int 0]] → LD x := by
    intro x n hx
    (simp only [List.mem_cons, List.not_mem_nil, or_false] at hx)
    rcases hx with rfl | rfl | rfl | rfl | rfl | rfl | rfl | rfl <;> first | exact ld_int | exact ld_str | exact ld_tup
  unfold b_law_papers
  have l0 := cl none (some 2)
  have Ll := g.1
  show wSs C _ [oI ds, .val (tiesD ts), .val (.tup (is.map D.int)), .none, .none, .none] _
  rw [hL]
  simp! [cpow30]
  refine ⟨line5 (by omega), ?_⟩
  refine hp _ _ _ _ _ (.inr rfl) (by simp) fun ds2 x s1 hx => ?_
  have gx := gS hx
  simp!
  refine ⟨line5 (by omega), ?_⟩
  have g1 : GP (.tup (L ++ [x])) := gp_of (g.app (.one gx)) (by omega)
  have b0 : ∀ p ∈ [D.tup [], .tup L, .tup (L ++ cutD L none (some 2)), .tup L.reverse, .tup (cutD L (some 1) none), .tup (cutD L none (some (-1)))], GP p := by
    intro p hp
    simp only [List.mem_cons, List.not_mem_nil, or_false] at hp
    rcases hp with rfl | rfl | rfl | rfl | rfl | rfl
    · exact gp_of .nil (by omega)
    · exact gp_of g (by omega)
    · exact gp_of (g.app (g.cut _ _)) (by omega)
    · exact gp_of g.rev (by omega)
    · exact gp_of (g.cut _ _) (by omega)
    · exact gp_of (g.cut _ _) (by omega)
  by_cases h0 : (0 : Int) < L.length
  · have hn : is ≠ [] := fun z => by subst z; subst hL; simp at h0
    have tn : (0 : Int) < ts.length := by
      cases is with
      | nil => exact absurd rfl hn
      | cons i r =>
        have := hi i List.mem_cons_self
        omega
    simp! [h0]
    refine ht _ _ _ _ h0 fun ds3 v s2 v0 v1 => ?_
    simp!
    have c1 := cl none (some v)
    have c2 := cl (some (v + 1)) none
    refine ⟨line5 (by omega), ?_⟩
    refine hp _ _ _ _ _ (.inr rfl) (by simp) fun ds4 x2 s3 hx2 => ?_
    have gx2 := gS hx2
    simp! [List.length_append]
    refine ⟨line5 (by omega), line5 (by omega), ?_⟩
    refine ht _ _ _ _ tn fun ds5 v2 s4 _ _ => ?_
    obtain ⟨w, ew⟩ := atI_map (xs := is) v0 (by subst hL; simpa using v1)
    rw [hL] at ew
    simp! [List.length_append, ew]
    refine ⟨line5 (by omega), line5 (by omega), line5 (by omega), line5 (by omega), line5 (by omega), line5 (by omega), ?_⟩
    refine q _ _ (fun p hp => ?_) (by simp)
    rcases List.mem_cons.1 hp with rfl | hp
    · exact b0 _ (by simp)
    rcases List.mem_cons.1 hp with rfl | hp
    · exact b0 _ (by simp)
    rcases List.mem_cons.1 hp with rfl | hp
    · exact b0 _ (by simp)
    rcases List.mem_cons.1 hp with rfl | hp
    · exact b0 _ (by simp)
    rcases List.mem_cons.1 hp with rfl | hp
    · exact b0 _ (by simp)
    rcases List.mem_cons.1 hp with rfl | hp
    · exact b0 _ (by simp)
    rcases List.mem_cons.1 hp with rfl | hp
    · exact g1
    rcases List.mem_cons.1 hp with rfl | hp
    · exact gp_of ((g.cut _ _).app (g.cut _ _)) (by omega)
    rcases List.mem_cons.1 hp with rfl | hp
    · exact gp_of (((g.cut _ _).app (.one gx2)).app (g.cut _ _)) (by omega)
    rcases List.mem_cons.1 hp with rfl | hp
    · exact gp_of (((g.cut _ _).app (.one ld_int)).app (g.cut _ _)) (by omega)
    rcases List.mem_cons.1 hp with rfl | hp
    · exact gp_of (((g.cut _ _).app (.one ld_tup)).app (g.cut _ _)) (by omega)
    rcases List.mem_cons.1 hp with rfl | hp
    · exact gp_of (((g.cut _ _).app (.one ld_int)).app (g.cut _ _)) (by omega)
    · cases hp
  · simp! [h0]
    refine q _ _ (fun p hp => ?_) (by simp)
    simp only [List.mem_cons, List.not_mem_nil, or_false] at hp
    rcases hp with rfl | rfl | rfl | rfl | rfl | rfl | rfl
    all_goals first
      | exact g1
      | exact b0 _ (by simp)
end QL
set_option maxHeartbeats 1500000
namespace QL
open PySem L2
local macro_rules
  | `(tactic| simp! [$args,*]) => `(tactic| simp only [frz_b, wE_k, wE_v, kV_v, kV_o, wE_fz, kFz_v, kFz_t, kFz_b, kFzB_v, kFzB_o, wEs_n, wEs_c, kCons_v, kCons_t, kCons_b, kPush_, wE_op, kOp_, wE_mt, kMt_v, kMt_t, kMt_b, wE_sl2, kS1_v, kS1_t, kS1_b, kS2_v, kS2_t, kS2_b, kS2i_i, kS3_v, kS3_t, kS3_b, kS3i_i, kRd_v, kRd_t, kRd_b, wE_and, kAnd_v, kAnd_t, kAnd_b, kAndB_, wE_or, kOr_v, kOr_t, kOr_b, kOrB_, wE_not, kNot_v, kNot_t, kNot_b, kNotB_, wE_ife, kIfe_, wE_tup, kTup_, wE_lst, kLst_, wZ_n, wZ_c, kZ_v, kZ_t, kZ_b, kZB_v, kZB_o, kZp_, wE_call, kCall_, kCallS_, kOut_v, kOut_t, kOut_b, kGb_, argSls_n, argSls_c, kSlc_, argSl_v, argSl_t, argSl_b, kAs_v, kAs_o, bors_n, bors_v, bors_t, bors_b, gb_n, gb_v, gb_t, gb_o, kGv_, gb_w, kGw_, wE_lc, kLc_, kLcD_, kLcI_, kLcE_, lcT_, kTu_, wO_n, wO_s, kTc_, kTe_v, kTe_t, kTe_b, kTeB_v, kTeB_o, wE_ssc, kSsc_, kSscD_, kSscI_, sscT_, kTsu_, kTsc_, kTse_v, op_add, op_sub, op_mul, op_fdiv, op_mod, op_pow, op_shl, op_shr, op_neg, op_eq, op_ne, op_lt, op_le, op_gt, op_ge, op_isin, op_notin, op_isN, op_notN, op_len, op_toInt, op_toList, op_toTup, op_sum, op_max1, op_min1, op_any, op_all, op_sorted, op_max2, op_min2, op_ix, op_slAll, op_slLo, op_slHi, op_join, op_dget2, op_setIx, op_sortSet, op_slRev, op_lrng, op_indexL, op_indexT, op_isi, kDer_, derefs_n, derefs_c, kDc_, deref_v, deref_t, deref_b, kDb_v, kDb_o, op_pop, kPop_, kPopL_, op_append, kApp_, op_insert, kIns_, op_reverse, kRev_, rd_add, rd_mul, rd_eq, rd_ne, rd_lt, rd_gt, rd_ix, rd_slLo, rd_slHi, rd_join, rd_indexL, rd_indexT, rd_isN, rd_notN, rd_len, rd_toInt, rd_toList, rd_toTup, rd_any, rd_all, rd_max1, rd_min1, rd_sum, rd_sorted, rd_sortSet, rd_slRev, rd_lrng, rd_sub, rd_fdiv, rd_mod, rd_pow, rd_shl, rd_shr, rd_le, rd_ge, rd_max2, rd_min2, rd_neg, rd_isin, rd_notin, rd_slAll, rd_isi, add_i, add_s, add_l, add_t, mul_i, mul_s, eq_, lt_i, lt_s, gt_i, gt_s, in_l, in_t, isN_non, isN_bl, isN_int, isN_str, isN_tup, isN_lst, isN_dct, len_lst, len_tup, len_frl, len_str, toInt_i, toInt_b, toList_l, toList_t, toTup_l, toTup_t, rev_l, rev_t, lrng_, ix_l, ix_t, ix_s, kIx_, kIxC_, slLo_, slHi_, sl_l, sl_t, sl_s, mtTy_l, mtTy_t, mtTy_s, isi_non_int, isi_bl_int, isi_int_int, isi_str_int, isi_tup_int, isi_lst_int, isi_dct_int, isi_non_bool, isi_bl_bool, isi_int_bool, isi_str_bool, isi_tup_bool, isi_lst_bool, isi_dct_bool, isi_non_str, isi_bl_str, isi_int_str, isi_str_str, isi_tup_str, isi_lst_str, isi_dct_str, isi_non_tuple, isi_bl_tuple, isi_int_tuple, isi_str_tuple, isi_tup_tuple, isi_lst_tuple, isi_dct_tuple, isi_non_list, isi_bl_list, isi_int_list, isi_str_list, isi_tup_list, isi_lst_list, isi_dct_list, isi_non_tuplelist, isi_bl_tuplelist, isi_int_tuplelist, isi_str_tuplelist, isi_tup_tuplelist, isi_lst_tuplelist, isi_dct_tuplelist, isi_non_intstr, isi_bl_intstr, isi_int_intstr, isi_str_intstr, isi_tup_intstr, isi_lst_intstr, isi_dct_intstr, wT_k, wT_v, wT_op, wT_call, wT_and, wT_or, wT_not, kTAnd_, kTOr_, kTNot_, kTr_v, kTr_t, kTr_b, kTru_, kTruB_, tr_non, tr_bl, tr_int, tr_str, tr_tup, tr_lst, wI_seq, kSeq_v, kSeq_t, kSeq_b, wI_enum, kEnum_v, kEnum_t, kEnum_b, wI_rng1, kR1_v, kR1_t, kR1_b, kR1i_, wI_rng2, kR2_v, kR2_t, kR2_b, kR2b_v, kR2b_t, kR2b_b, kR2i_, wI_zip, kZip_v, kZip_t, kZip_b, kZip2_v, kZip2_t, kZip2_b, sd_seq, sd_enum, sd_rng, sd_zip, kM1_, kM2_, it_seq_n, it_rng_n, it_seq_t, it_rng_t, it_enl_t, it_ent_t, it_zpl_t, it_zpt_t, it_seq_u, it_rng_u, it_enl_u, it_ent_u, it_zpl_u, it_zpt_u, sqi_l, sqi_t, sqi_f, fz_seq, fz_enum, fz_rng, fz_zvv, kFq_, frz_v, frz_t, kFb_v, kFb_o, wSs_n, wSs_c, wSs_g, wSs_z, kFrz_v, kFrz_o, seqE_nx, seqE_rt, seqE_bk, seqE_ct, topE_nx, topE_rt, outF_, nrm_v, nrm_n, nrm_o, fgtF_n, fgtF_c, fg1_z, fg1_s, fgS_n, fgS_v, fgS_o, fgS_b, wS_set, kSet_tn, kSet_tt, kSet_tu, kSet_v, kSet_b, kSetB_v, kSetB_o, kPutE_, asgT_n, asgT_t, asgT_u, asgAll_n, asgAll_c, kA2_, putSl_, kPut_n, kPut_v, kPut_o, wS_setLc, kSetLc_, wS_setIx, kX1_v, kX1_t, kX1_b, kX1B_v, kX1B_o, kX2_, kX3_v, kX3_t, kX3_b, kX4_, kX5_, wS_ex, kEx_v, kEx_t, kEx_b, wS_ret, kRet_v, kRet_t, kRet_b, kRetB_v, kRetB_o, wS_retN, wS_aug, kAug_, kAu_v, kAu_t, kAu_b, kAui_a, kAui_s, wS_ite, kIte_, wS_for, kFor_, kForS_, kForD_, kForI_, forGo_n, forGo_c, kForC_, loopE_nx, loopE_ct, loopE_bk, loopE_rt, wS_fof, kFof_, kFofS_, kFofD_, kFofI_, forGoF_n, forGoF_c, kFofC_, loopF_nx, loopF_ct, loopF_bk, loopF_rt, wS_brk, wS_cnt, wS_pass, wipe_n, wipe_c, rest_n, rest_c, getD_z, getD_s, ownB_n, ownB_c, isOwn_, kIo_n, kIo_v, kIo_o, sb_seq, sb_enum, sb_rng, sb_zip, rb_v, rb_t, rb_b, line_ok, line_lt, List.getElem?_cons_zero, List.getElem?_cons_succ, List.getElem?_nil, List.set_cons_zero, List.set_cons_succ, List.take_succ_cons, List.take_zero, List.map_cons, List.map_nil, List.length_cons, List.length_nil, List.length_map, List.nodup_cons, List.nodup_nil, List.not_mem_nil, List.mem_cons, List.mem_singleton, not_false_eq_true, true_and, and_true, and_self, ite_true, ite_false, if_true, if_false, Bool.false_eq_true, Bool.true_eq_false, Bool.not_true, Bool.not_false, Bool.not_not, Bool.and_true, Bool.true_and, Bool.and_false, Bool.false_and, Bool.or_true, Bool.or_false, bne_iff_ne, beq_iff_eq, decide_eq_true_eq, decide_eq_false_iff_not, Bool.not_eq_true', Bool.not_eq_eq_eq_not, List.contains_nil, List.contains_cons, List.cons_append, List.nil_append, List.append_nil, List.replicate_succ, List.replicate_zero, ne_eq, reduceCtorEq, Nat.lt_irrefl, Option.some.injEq, Int.ofNat_eq_natCast, Nat.zero_lt_succ, Nat.add_lt_add_iff_right, Nat.zero_add, decide_true, decide_false, Bool.decide_eq_true, false_or, or_false, Nat.reduceLeDiff, Nat.reduceAdd, Nat.reduceSub, Nat.reduceLT, Nat.reduceEqDiff, Nat.reduceBEq, Nat.reduceMul, Nat.reducePow, Int.reduceLT, Int.reduceLE, Int.reduceNeg, Int.reduceAdd, Int.reduceSub, Int.reduceMul, Int.reducePow, Int.reduceToNat, Int.reduceEq, Int.reduceBEq, Int.reduceNe, reduceIte, decide_not, eq_self, not_true_eq_false, imp_self, Bool.and_self, Bool.or_self, Bool.and_eq_true, Bool.or_eq_true, Bool.or_eq_false_iff, Bool.true_or, Bool.false_or, Bool.false_bne, Bool.bne_false, Bool.bne_true, $args,*])
local macro_rules
  | `(tactic| simp!) => `(tactic| simp only [frz_b, wE_k, wE_v, kV_v, kV_o, wE_fz, kFz_v, kFz_t, kFz_b, kFzB_v, kFzB_o, wEs_n, wEs_c, kCons_v, kCons_t, kCons_b, kPush_, wE_op, kOp_, wE_mt, kMt_v, kMt_t, kMt_b, wE_sl2, kS1_v, kS1_t, kS1_b, kS2_v, kS2_t, kS2_b, kS2i_i, kS3_v, kS3_t, kS3_b, kS3i_i, kRd_v, kRd_t, kRd_b, wE_and, kAnd_v, kAnd_t, kAnd_b, kAndB_, wE_or, kOr_v, kOr_t, kOr_b, kOrB_, wE_not, kNot_v, kNot_t, kNot_b, kNotB_, wE_ife, kIfe_, wE_tup, kTup_, wE_lst, kLst_, wZ_n, wZ_c, kZ_v, kZ_t, kZ_b, kZB_v, kZB_o, kZp_, wE_call, kCall_, kCallS_, kOut_v, kOut_t, kOut_b, kGb_, argSls_n, argSls_c, kSlc_, argSl_v, argSl_t, argSl_b, kAs_v, kAs_o, bors_n, bors_v, bors_t, bors_b, gb_n, gb_v, gb_t, gb_o, kGv_, gb_w, kGw_, wE_lc, kLc_, kLcD_, kLcI_, kLcE_, lcT_, kTu_, wO_n, wO_s, kTc_, kTe_v, kTe_t, kTe_b, kTeB_v, kTeB_o, wE_ssc, kSsc_, kSscD_, kSscI_, sscT_, kTsu_, kTsc_, kTse_v, op_add, op_sub, op_mul, op_fdiv, op_mod, op_pow, op_shl, op_shr, op_neg, op_eq, op_ne, op_lt, op_le, op_gt, op_ge, op_isin, op_notin, op_isN, op_notN, op_len, op_toInt, op_toList, op_toTup, op_sum, op_max1, op_min1, op_any, op_all, op_sorted, op_max2, op_min2, op_ix, op_slAll, op_slLo, op_slHi, op_join, op_dget2, op_setIx, op_sortSet, op_slRev, op_lrng, op_indexL, op_indexT, op_isi, kDer_, derefs_n, derefs_c, kDc_, deref_v, deref_t, deref_b, kDb_v, kDb_o, op_pop, kPop_, kPopL_, op_append, kApp_, op_insert, kIns_, op_reverse, kRev_, rd_add, rd_mul, rd_eq, rd_ne, rd_lt, rd_gt, rd_ix, rd_slLo, rd_slHi, rd_join, rd_indexL, rd_indexT, rd_isN, rd_notN, rd_len, rd_toInt, rd_toList, rd_toTup, rd_any, rd_all, rd_max1, rd_min1, rd_sum, rd_sorted, rd_sortSet, rd_slRev, rd_lrng, rd_sub, rd_fdiv, rd_mod, rd_pow, rd_shl, rd_shr, rd_le, rd_ge, rd_max2, rd_min2, rd_neg, rd_isin, rd_notin, rd_slAll, rd_isi, add_i, add_s, add_l, add_t, mul_i, mul_s, eq_, lt_i, lt_s, gt_i, gt_s, in_l, in_t, isN_non, isN_bl, isN_int, isN_str, isN_tup, isN_lst, isN_dct, len_lst, len_tup, len_frl, len_str, toInt_i, toInt_b, toList_l, toList_t, toTup_l, toTup_t, rev_l, rev_t, lrng_, ix_l, ix_t, ix_s, kIx_, kIxC_, slLo_, slHi_, sl_l, sl_t, sl_s, mtTy_l, mtTy_t, mtTy_s, isi_non_int, isi_bl_int, isi_int_int, isi_str_int, isi_tup_int, isi_lst_int, isi_dct_int, isi_non_bool, isi_bl_bool, isi_int_bool, isi_str_bool, isi_tup_bool, isi_lst_bool, isi_dct_bool, isi_non_str, isi_bl_str, isi_int_str, isi_str_str, isi_tup_str, isi_lst_str, isi_dct_str, isi_non_tuple, isi_bl_tuple, isi_int_tuple, isi_str_tuple, isi_tup_tuple, isi_lst_tuple, isi_dct_tuple, isi_non_list, isi_bl_list, isi_int_list, isi_str_list, isi_tup_list, isi_lst_list, isi_dct_list, isi_non_tuplelist, isi_bl_tuplelist, isi_int_tuplelist, isi_str_tuplelist, isi_tup_tuplelist, isi_lst_tuplelist, isi_dct_tuplelist, isi_non_intstr, isi_bl_intstr, isi_int_intstr, isi_str_intstr, isi_tup_intstr, isi_lst_intstr, isi_dct_intstr, wT_k, wT_v, wT_op, wT_call, wT_and, wT_or, wT_not, kTAnd_, kTOr_, kTNot_, kTr_v, kTr_t, kTr_b, kTru_, kTruB_, tr_non, tr_bl, tr_int, tr_str, tr_tup, tr_lst, wI_seq, kSeq_v, kSeq_t, kSeq_b, wI_enum, kEnum_v, kEnum_t, kEnum_b, wI_rng1, kR1_v, kR1_t, kR1_b, kR1i_, wI_rng2, kR2_v, kR2_t, kR2_b, kR2b_v, kR2b_t, kR2b_b, kR2i_, wI_zip, kZip_v, kZip_t, kZip_b, kZip2_v, kZip2_t, kZip2_b, sd_seq, sd_enum, sd_rng, sd_zip, kM1_, kM2_, it_seq_n, it_rng_n, it_seq_t, it_rng_t, it_enl_t, it_ent_t, it_zpl_t, it_zpt_t, it_seq_u, it_rng_u, it_enl_u, it_ent_u, it_zpl_u, it_zpt_u, sqi_l, sqi_t, sqi_f, fz_seq, fz_enum, fz_rng, fz_zvv, kFq_, frz_v, frz_t, kFb_v, kFb_o, wSs_n, wSs_c, wSs_g, wSs_z, kFrz_v, kFrz_o, seqE_nx, seqE_rt, seqE_bk, seqE_ct, topE_nx, topE_rt, outF_, nrm_v, nrm_n, nrm_o, fgtF_n, fgtF_c, fg1_z, fg1_s, fgS_n, fgS_v, fgS_o, fgS_b, wS_set, kSet_tn, kSet_tt, kSet_tu, kSet_v, kSet_b, kSetB_v, kSetB_o, kPutE_, asgT_n, asgT_t, asgT_u, asgAll_n, asgAll_c, kA2_, putSl_, kPut_n, kPut_v, kPut_o, wS_setLc, kSetLc_, wS_setIx, kX1_v, kX1_t, kX1_b, kX1B_v, kX1B_o, kX2_, kX3_v, kX3_t, kX3_b, kX4_, kX5_, wS_ex, kEx_v, kEx_t, kEx_b, wS_ret, kRet_v, kRet_t, kRet_b, kRetB_v, kRetB_o, wS_retN, wS_aug, kAug_, kAu_v, kAu_t, kAu_b, kAui_a, kAui_s, wS_ite, kIte_, wS_for, kFor_, kForS_, kForD_, kForI_, forGo_n, forGo_c, kForC_, loopE_nx, loopE_ct, loopE_bk, loopE_rt, wS_fof, kFof_, kFofS_, kFofD_, kFofI_, forGoF_n, forGoF_c, kFofC_, loopF_nx, loopF_ct, loopF_bk, loopF_rt, wS_brk, wS_cnt, wS_pass, wipe_n, wipe_c, rest_n, rest_c, getD_z, getD_s, ownB_n, ownB_c, isOwn_, kIo_n, kIo_v, kIo_o, sb_seq, sb_enum, sb_rng, sb_zip, rb_v, rb_t, rb_b, line_ok, line_lt, List.getElem?_cons_zero, List.getElem?_cons_succ, List.getElem?_nil, List.set_cons_zero, List.set_cons_succ, List.take_succ_cons, List.take_zero, List.map_cons, List.map_nil, List.length_cons, List.length_nil, List.length_map, List.nodup_cons, List.nodup_nil, List.not_mem_nil, List.mem_cons, List.mem_singleton, not_false_eq_true, true_and, and_true, and_self, ite_true, ite_false, if_true, if_false, Bool.false_eq_true, Bool.true_eq_false, Bool.not_true, Bool.not_false, Bool.not_not, Bool.and_true, Bool.true_and, Bool.and_false, Bool.false_and, Bool.or_true, Bool.or_false, bne_iff_ne, beq_iff_eq, decide_eq_true_eq, decide_eq_false_iff_not, Bool.not_eq_true', Bool.not_eq_eq_eq_not, List.contains_nil, List.contains_cons, List.cons_append, List.nil_append, List.append_nil, List.replicate_succ, List.replicate_zero, ne_eq, reduceCtorEq, Nat.lt_irrefl, Option.some.injEq, Int.ofNat_eq_natCast, Nat.zero_lt_succ, Nat.add_lt_add_iff_right, Nat.zero_add, decide_true, decide_false, Bool.decide_eq_true, false_or, or_false, Nat.reduceLeDiff, Nat.reduceAdd, Nat.reduceSub, Nat.reduceLT, Nat.reduceEqDiff, Nat.reduceBEq, Nat.reduceMul, Nat.reducePow, Int.reduceLT, Int.reduceLE, Int.reduceNeg, Int.reduceAdd, Int.reduceSub, Int.reduceMul, Int.reducePow, Int.reduceToNat, Int.reduceEq, Int.reduceBEq, Int.reduceNe, reduceIte, decide_not, eq_self, not_true_eq_false, imp_self, Bool.and_self, Bool.or_self, Bool.and_eq_true, Bool.or_eq_true, Bool.or_eq_false_iff, Bool.true_or, Bool.false_or, Bool.false_bne, Bool.bne_false, Bool.bne_true])
local macro_rules
  | `(tactic| simp! at $h:ident) => `(tactic| simp only [frz_b, wE_k, wE_v, kV_v, kV_o, wE_fz, kFz_v, kFz_t, kFz_b, kFzB_v, kFzB_o, wEs_n, wEs_c, kCons_v, kCons_t, kCons_b, kPush_, wE_op, kOp_, wE_mt, kMt_v, kMt_t, kMt_b, wE_sl2, kS1_v, kS1_t, kS1_b, kS2_v, kS2_t, kS2_b, kS2i_i, kS3_v, kS3_t, kS3_b, kS3i_i, kRd_v, kRd_t, kRd_b, wE_and, kAnd_v, kAnd_t, kAnd_b, kAndB_, wE_or, kOr_v, kOr_t, kOr_b, kOrB_, wE_not, kNot_v, kNot_t, kNot_b, kNotB_, wE_ife, kIfe_, wE_tup, kTup_, wE_lst, kLst_, wZ_n, wZ_c, kZ_v, kZ_t, kZ_b, kZB_v, kZB_o, kZp_, wE_call, kCall_, kCallS_, kOut_v, kOut_t, kOut_b, kGb_, argSls_n, argSls_c, kSlc_, argSl_v, argSl_t, argSl_b, kAs_v, kAs_o, bors_n, bors_v, bors_t, bors_b, gb_n, gb_v, gb_t, gb_o, kGv_, gb_w, kGw_, wE_lc, kLc_, kLcD_, kLcI_, kLcE_, lcT_, kTu_, wO_n, wO_s, kTc_, kTe_v, kTe_t, kTe_b, kTeB_v, kTeB_o, wE_ssc, kSsc_, kSscD_, kSscI_, sscT_, kTsu_, kTsc_, kTse_v, op_add, op_sub, op_mul, op_fdiv, op_mod, op_pow, op_shl, op_shr, op_neg, op_eq, op_ne, op_lt, op_le, op_gt, op_ge, op_isin, op_notin, op_isN, op_notN, op_len, op_toInt, op_toList, op_toTup, op_sum, op_max1, op_min1, op_any, op_all, op_sorted, op_max2, op_min2, op_ix, op_slAll, op_slLo, op_slHi, op_join, op_dget2, op_setIx, op_sortSet, op_slRev, op_lrng, op_indexL, op_indexT, op_isi, kDer_, derefs_n, derefs_c, kDc_, deref_v, deref_t, deref_b, kDb_v, kDb_o, op_pop, kPop_, kPopL_, op_append, kApp_, op_insert, kIns_, op_reverse, kRev_, rd_add, rd_mul, rd_eq, rd_ne, rd_lt, rd_gt, rd_ix, rd_slLo, rd_slHi, rd_join, rd_indexL, rd_indexT, rd_isN, rd_notN, rd_len, rd_toInt, rd_toList, rd_toTup, rd_any, rd_all, rd_max1, rd_min1, rd_sum, rd_sorted, rd_sortSet, rd_slRev, rd_lrng, rd_sub, rd_fdiv, rd_mod, rd_pow, rd_shl, rd_shr, rd_le, rd_ge, rd_max2, rd_min2, rd_neg, rd_isin, rd_notin, rd_slAll, rd_isi, add_i, add_s, add_l, add_t, mul_i, mul_s, eq_, lt_i, lt_s, gt_i, gt_s, in_l, in_t, isN_non, isN_bl, isN_int, isN_str, isN_tup, isN_lst, isN_dct, len_lst, len_tup, len_frl, len_str, toInt_i, toInt_b, toList_l, toList_t, toTup_l, toTup_t, rev_l, rev_t, lrng_, ix_l, ix_t, ix_s, kIx_, kIxC_, slLo_, slHi_, sl_l, sl_t, sl_s, mtTy_l, mtTy_t, mtTy_s, isi_non_int, isi_bl_int, isi_int_int, isi_str_int, isi_tup_int, isi_lst_int, isi_dct_int, isi_non_bool, isi_bl_bool, isi_int_bool, isi_str_bool, isi_tup_bool, isi_lst_bool, isi_dct_bool, isi_non_str, isi_bl_str, isi_int_str, isi_str_str, isi_tup_str, isi_lst_str, isi_dct_str, isi_non_tuple, isi_bl_tuple, isi_int_tuple, isi_str_tuple, isi_tup_tuple, isi_lst_tuple, isi_dct_tuple, isi_non_list, isi_bl_list, isi_int_list, isi_str_list, isi_tup_list, isi_lst_list, isi_dct_list, isi_non_tuplelist, isi_bl_tuplelist, isi_int_tuplelist, isi_str_tuplelist, isi_tup_tuplelist, isi_lst_tuplelist, isi_dct_tuplelist, isi_non_intstr, isi_bl_intstr, isi_int_intstr, isi_str_intstr, isi_tup_intstr, isi_lst_intstr, isi_dct_intstr, wT_k, wT_v, wT_op, wT_call, wT_and, wT_or, wT_not, kTAnd_, kTOr_, kTNot_, kTr_v, kTr_t, kTr_b, kTru_, kTruB_, tr_non, tr_bl, tr_int, tr_str, tr_tup, tr_lst, wI_seq, kSeq_v, kSeq_t, kSeq_b, wI_enum, kEnum_v, kEnum_t, kEnum_b, wI_rng1, kR1_v, kR1_t, kR1_b, kR1i_, wI_rng2, kR2_v, kR2_t, kR2_b, kR2b_v, kR2b_t, kR2b_b, kR2i_, wI_zip, kZip_v, kZip_t, kZip_b, kZip2_v, kZip2_t, kZip2_b, sd_seq, sd_enum, sd_rng, sd_zip, kM1_, kM2_, it_seq_n, it_rng_n, it_seq_t, it_rng_t, it_enl_t, it_ent_t, it_zpl_t, it_zpt_t, it_seq_u, it_rng_u, it_enl_u, it_ent_u, it_zpl_u, it_zpt_u, sqi_l, sqi_t, sqi_f, fz_seq, fz_enum, fz_rng, fz_zvv, kFq_, frz_v, frz_t, kFb_v, kFb_o, wSs_n, wSs_c, wSs_g, wSs_z, kFrz_v, kFrz_o, seqE_nx, seqE_rt, seqE_bk, seqE_ct, topE_nx, topE_rt, outF_, nrm_v, nrm_n, nrm_o, fgtF_n, fgtF_c, fg1_z, fg1_s, fgS_n, fgS_v, fgS_o, fgS_b, wS_set, kSet_tn, kSet_tt, kSet_tu, kSet_v, kSet_b, kSetB_v, kSetB_o, kPutE_, asgT_n, asgT_t, asgT_u, asgAll_n, asgAll_c, kA2_, putSl_, kPut_n, kPut_v, kPut_o, wS_setLc, kSetLc_, wS_setIx, kX1_v, kX1_t, kX1_b, kX1B_v, kX1B_o, kX2_, kX3_v, kX3_t, kX3_b, kX4_, kX5_, wS_ex, kEx_v, kEx_t, kEx_b, wS_ret, kRet_v, kRet_t, kRet_b, kRetB_v, kRetB_o, wS_retN, wS_aug, kAug_, kAu_v, kAu_t, kAu_b, kAui_a, kAui_s, wS_ite, kIte_, wS_for, kFor_, kForS_, kForD_, kForI_, forGo_n, forGo_c, kForC_, loopE_nx, loopE_ct, loopE_bk, loopE_rt, wS_fof, kFof_, kFofS_, kFofD_, kFofI_, forGoF_n, forGoF_c, kFofC_, loopF_nx, loopF_ct, loopF_bk, loopF_rt, wS_brk, wS_cnt, wS_pass, wipe_n, wipe_c, rest_n, rest_c, getD_z, getD_s, ownB_n, ownB_c, isOwn_, kIo_n, kIo_v, kIo_o, sb_seq, sb_enum, sb_rng, sb_zip, rb_v, rb_t, rb_b, line_ok, line_lt, List.getElem?_cons_zero, List.getElem?_cons_succ, List.getElem?_nil, List.set_cons_zero, List.set_cons_succ, List.take_succ_cons, List.take_zero, List.map_cons, List.map_nil, List.length_cons, List.length_nil, List.length_map, List.nodup_cons, List.nodup_nil, List.not_mem_nil, List.mem_cons, List.mem_singleton, not_false_eq_true, true_and, and_true, and_self, ite_true, ite_false, if_true, if_false, Bool.false_eq_true, Bool.true_eq_false, Bool.not_true, Bool.not_false, Bool.not_not, Bool.and_true, Bool.true_and, Bool.and_false, Bool.false_and, Bool.or_true, Bool.or_false, bne_iff_ne, beq_iff_eq, decide_eq_true_eq, decide_eq_false_iff_not, Bool.not_eq_true', Bool.not_eq_eq_eq_not, List.contains_nil, List.contains_cons, List.cons_append, List.nil_append, List.append_nil, List.replicate_succ, List.replicate_zero, ne_eq, reduceCtorEq, Nat.lt_irrefl, Option.some.injEq, Int.ofNat_eq_natCast, Nat.zero_lt_succ, Nat.add_lt_add_iff_right, Nat.zero_add, decide_true, decide_false, Bool.decide_eq_true, false_or, or_false, Nat.reduceLeDiff, Nat.reduceAdd, Nat.reduceSub, Nat.reduceLT, Nat.reduceEqDiff, Nat.reduceBEq, Nat.reduceMul, Nat.reducePow, Int.reduceLT, Int.reduceLE, Int.reduceNeg, Int.reduceAdd, Int.reduceSub, Int.reduceMul, Int.reducePow, Int.reduceToNat, Int.reduceEq, Int.reduceBEq, Int.reduceNe, reduceIte, decide_not, eq_self, not_true_eq_false, imp_self, Bool.and_self, Bool.or_self, Bool.and_eq_true, Bool.or_eq_true, Bool.or_eq_false_iff, Bool.true_or, Bool.false_or, Bool.false_bne, Bool.bne_false, Bool.bne_true] at $h:ident)
/-! NF: told lines -/
theorem Gns.inv {ts : List Tie} {l : List Str} {xs : List (Nat × List Str)} (h : Gns ts l xs) : ∀ {gs : List (Nat × List Str)} {j : Nat} {g : List Str}, xs = gs ++ [(j, g)] → Gns ts l gs ∧ ∃ t, ts[j]? = some t ∧ (∀ x ∈ t.1, x ∈ gks l gs) ∧ (∀ x, x ∈ g ↔ x ∈ t.2 ∧ x ∉ gks l gs) ∧ g.length ≤ 12 := by
  intro gs j g e
  cases h with
  | nil => simp at e
  | @snoc gs' j' t g' hg ht h1 h2 h3 =>
    obtain ⟨e1, e2⟩ := List.append_inj' e rfl
    cases e2
    subst e1
    exact ⟨hg, t, ht, h1, h2, h3⟩
/-- all left columns -/
abbrev lefts (ts : List Tie) : List Str := ts.flatMap fun t => t.1
theorem lefts_len {ts : List Tie} (h : ∀ t ∈ ts, t.1.length ≤ 12 ∧ t.2.length ≤ 12) : (lefts ts).length ≤ ts.length * 12 := by
  induction ts with
  | nil => simp
  | cons t r ih =>
    have h1 := (h t List.mem_cons_self).1
    have h2 := ih fun u hu => h u (List.mem_cons_of_mem _ hu)
    simp only [lefts, List.flatMap_cons, List.length_append, List.length_cons] at *
    omega
def LinesOk (C : WC) (i : Nat) : Prop := ∀ (d : D) (ts : List Tie) (t : Tie) (Q : Rf → List Sl → Prop), TOk ts → t.1.length ≤ 12 → t.2.length ≤ 340 → (fol ts t = false → Q (.val .non) [.none, .none, .none]) →
  (fol ts t = true → ∀ is : List Int, Ixs ts is → is.length ≤ 240 → jl ts t.2 t.1 (is.map .int) = true → Q (.val (tI is)) [.none, .none, .none]) → C i [.val d, .val (tiesD ts), .val (tieD t)] Q
theorem lines_ok {C : WC} {g c w u f : Nat} (hg : GnOk C g) (hc : ComOk C c) (hw : WtoOk C w) (hu : UniOk C u) (hf : FolOk C f) {d : D} {ts : List Tie} {t : Tie} {Q : Rf → List Sl → Prop} (ht : TOk ts) (h1 : t.1.length ≤ 12) (h2 : t.2.length ≤ 340)
    (q0 : fol ts t = false → Q (.val .non) [.none, .none, .none]) (q1 : fol ts t = true → ∀ is : List Int, Ixs ts is → is.length ≤ 240 → jl ts t.2 t.1 (is.map .int) = true → Q (.val (tI is)) [.none, .none, .none]) :
    wSs C (b_lines_for g c w u f) [.val d, .val (tiesD ts), .val (tieD t), .none, .none, .none, .none, .none, .none] (topE 3 Q) := by
  unfold b_lines_for
  simp!
  refine hf _ _ _ _ ht (by omega) (by omega) fun s1 s2 s3 => ?_
  generalize hb : fol ts t = b at q0 q1
  cases b
  · simp!
    exact q0 rfl
  simp!
  refine hw _ _ _ (by omega) fun s4 s5 => ?_
  simp!
  refine hg _ _ _ ht (by omega) fun gs gn gl gm => ?_
  simp!
  rw [← List.map_reverse]
  have hfol : ∀ x ∈ t.2, x ∈ gks t.1 gs := fun x hx => (gm x).mpr (by
    have : ∀ x ∈ t.2, Cl ts t.1 x := by simpa [fol] using hb
    exact this x hx)
  have lfl := lefts_len ht.sides
  have tsl := ht.len
  refine fof_ind (I := fun us fr => ∃ (g0 : List (Nat × List Str)) (N : List Str) (ps : List Int), us = g0.reverse ∧ fr = [.val d, .val (tiesD ts), .val (tieD t), .val (tS t.1), .val (tS t.2), .val (tS N), .own false (.lst (ps.map .int)), .none, .none] ∧
      Gns ts t.1 g0 ∧ Ixs ts ps ∧ ps.length + us.length ≤ 240 ∧ (N.length ≤ 340 ∨ N.Nodup) ∧ (∀ x ∈ N, x ∈ t.2 ++ lefts ts) ∧
      ∀ K : List Str, (∀ x ∈ t.1, x ∈ K) → (∀ x ∈ N, x ∈ gks t.1 g0 → x ∈ K) → jl ts t.2 K (ps.reverse.map .int) = true) ?_ ?_
    ⟨gs, wto t.2 t.1, [], rfl, rfl, gn, fun i h => (by cases h), by simpa using gl, .inl (Nat.le_trans (List.length_filter_le ..) h2), fun x hx => List.mem_append_left _ (mem_wto.mp hx).1, fun K k1 k2 => ?_⟩
  · rintro ⟨j, g⟩ r fr ⟨g0, N, ps, eu, rfl, gn, ip, pl, nl, nm, key⟩ ih
    have eg : g0 = r.reverse ++ [(j, g)] := by rw [← List.reverse_reverse g0, ← eu]; simp
    obtain ⟨gn', t', ht', a1, a2, a3⟩ := gn.inv eg
    have Nl : N.length ≤ 580 := by
      rcases nl with z | z
      · omega
      · have := nodup_len z nm
        rw [List.length_append] at this
        omega
    have er : r = r.reverse.reverse := by simp
    simp!
    refine hc _ _ _ (by omega) ?_
    have tm := List.mem_of_getElem? ht'
    have sd := ht.sides _ tm
    have ea : atI (ts.map tieD) (j : Int) = some (tieD t') := atI_nat (by rw [List.getElem?_map, ht']; rfl)
    rw [List.length_cons] at pl
    by_cases h0 : (0 : Int) < (com g N).length
    · simp! [h0, ea, ix0]
      refine ⟨by rw [sizeLine_eq]; omega, ?_⟩
      refine hw _ _ _ (by omega) fun s6 s7 => ?_
      simp!
      have wl : (wto t'.1 t.1).length ≤ 12 := Nat.le_trans (List.length_filter_le ..) sd.1
      refine hu _ _ _ (by omega) fun ys s8 s9 sy hy => ?_
      simp!
      refine ih _ ⟨r.reverse, ys, ps ++ [(j : Int)], er, by simp, gn', fun i hi => ?_, by rw [List.length_append]; simp; omega, .inr sy.2, fun x hx => ?_, fun K k1 k2 => ?_⟩
      · rcases List.mem_append.mp hi with z | z
        · exact ip i z
        · cases List.mem_singleton.mp z
          have := (List.getElem?_eq_some_iff.mp ht').1
          omega
      · rcases (hy x).mp hx with z | z
        · exact nm x z
        · exact List.mem_append_right _ (List.mem_flatMap.mpr ⟨t', tm, (mem_wto.mp z).1⟩)
      · rw [List.reverse_append]
        show jl ts t.2 K (.int j :: ps.reverse.map .int) = true
        rw [jl_in (t := t') (by omega) (by simpa using ht')]
        have hK : ∀ x ∈ t'.1, x ∈ K := fun x hx => by
          by_cases hxl : x ∈ t.1
          · exact k1 x hxl
          · exact k2 x ((hy x).mpr (.inr (mem_wto.mpr ⟨hx, hxl⟩))) (a1 x hx)
        rw [if_pos hK]
        refine key _ (fun x hx => List.mem_append_left _ (k1 x hx)) fun x hx hk => ?_
        rw [eg, mem_gks] at hk
        by_cases hx2 : x ∈ gks t.1 r.reverse
        · exact List.mem_append_left _ (k2 x ((hy x).mpr (.inl hx)) hx2)
        · rcases hk with z | ⟨g', z1, z2⟩
          · exact absurd (mem_gks.mpr (.inl z)) hx2
          · rcases List.mem_append.mp z1 with z | z
            · exact absurd (mem_gks.mpr (.inr ⟨g', z, z2⟩)) hx2
            · cases List.mem_singleton.mp z
              exact List.mem_append_right _ ((a2 x).mp z2).1
    · simp! [h0]
      refine ih _ ⟨r.reverse, N, ps, er, rfl, gn', ip, by omega, nl, nm, fun K k1 k2 => key K k1 fun x hx hk => ?_⟩
      rw [eg, mem_gks] at hk
      rcases hk with z | ⟨g', z1, z2⟩
      · exact k1 x z
      · rcases List.mem_append.mp z1 with z | z
        · exact k2 x hx (mem_gks.mpr (.inr ⟨g', z, z2⟩))
        · cases List.mem_singleton.mp z
          have : x ∈ com g N := List.mem_filter.mpr ⟨z2, by simpa using hx⟩
          have := List.length_pos_of_mem this
          omega
  · rintro fr ⟨g0, N, ps, eu, rfl, gn, ip, pl, nl, nm, key⟩
    have eg : g0 = [] := by
      have := congrArg List.reverse eu
      simpa using this.symm
    subst eg
    simp!
    rw [← List.map_reverse]
    refine q1 rfl _ (fun i hi => ip i (List.mem_reverse.mp hi)) (by rw [List.length_reverse]; simpa using pl) ?_
    refine key _ (fun x hx => hx) fun x _ hk => ?_
    simpa [gks] using hk
  · rw [List.reverse_nil]
    show jl ts t.2 K [] = true
    rw [jl_nil, decide_eq_true_eq]
    intro x hx
    by_cases hl : x ∈ t.1
    · exact k1 x hl
    · exact k2 x (mem_wto.mpr ⟨hx, hl⟩) (hfol x hx)
end QL
set_option maxHeartbeats 1500000
namespace QL
open PySem L2
local macro_rules
  | `(tactic| simp! [$args,*]) => `(tactic| simp only [frz_b, wE_k, wE_v, kV_v, kV_o, wE_fz, kFz_v, kFz_t, kFz_b, kFzB_v, kFzB_o, wEs_n, wEs_c, kCons_v, kCons_t, kCons_b, kPush_, wE_op, kOp_, wE_mt, kMt_v, kMt_t, kMt_b, wE_sl2, kS1_v, kS1_t, kS1_b, kS2_v, kS2_t, kS2_b, kS2i_i, kS3_v, kS3_t, kS3_b, kS3i_i, kRd_v, kRd_t, kRd_b, wE_and, kAnd_v, kAnd_t, kAnd_b, kAndB_, wE_or, kOr_v, kOr_t, kOr_b, kOrB_, wE_not, kNot_v, kNot_t, kNot_b, kNotB_, wE_ife, kIfe_, wE_tup, kTup_, wE_lst, kLst_, wZ_n, wZ_c, kZ_v, kZ_t, kZ_b, kZB_v, kZB_o, kZp_, wE_call, kCall_, kCallS_, kOut_v, kOut_t, kOut_b, kGb_, argSls_n, argSls_c, kSlc_, argSl_v, argSl_t, argSl_b, kAs_v, kAs_o, bors_n, bors_v, bors_t, bors_b, gb_n, gb_v, gb_t, gb_o, kGv_, gb_w, kGw_, wE_lc, kLc_, kLcD_, kLcI_, kLcE_, lcT_, kTu_, wO_n, wO_s, kTc_, kTe_v, kTe_t, kTe_b, kTeB_v, kTeB_o, wE_ssc, kSsc_, kSscD_, kSscI_, sscT_, kTsu_, kTsc_, kTse_v, op_add, op_sub, op_mul, op_fdiv, op_mod, op_pow, op_shl, op_shr, op_neg, op_eq, op_ne, op_lt, op_le, op_gt, op_ge, op_isin, op_notin, op_isN, op_notN, op_len, op_toInt, op_toList, op_toTup, op_sum, op_max1, op_min1, op_any, op_all, op_sorted, op_max2, op_min2, op_ix, op_slAll, op_slLo, op_slHi, op_join, op_dget2, op_setIx, op_sortSet, op_slRev, op_lrng, op_indexL, op_indexT, op_isi, kDer_, derefs_n, derefs_c, kDc_, deref_v, deref_t, deref_b, kDb_v, kDb_o, op_pop, kPop_, kPopL_, op_append, kApp_, op_insert, kIns_, op_reverse, kRev_, rd_add, rd_mul, rd_eq, rd_ne, rd_lt, rd_gt, rd_ix, rd_slLo, rd_slHi, rd_join, rd_indexL, rd_indexT, rd_isN, rd_notN, rd_len, rd_toInt, rd_toList, rd_toTup, rd_any, rd_all, rd_max1, rd_min1, rd_sum, rd_sorted, rd_sortSet, rd_slRev, rd_lrng, rd_sub, rd_fdiv, rd_mod, rd_pow, rd_shl, rd_shr, rd_le, rd_ge, rd_max2, rd_min2, rd_neg, rd_isin, rd_notin, rd_slAll, rd_isi, add_i, add_s, add_l, add_t, mul_i, mul_s, eq_, lt_i, lt_s, gt_i, gt_s, in_l, in_t, isN_non, isN_bl, isN_int, isN_str, isN_tup, isN_lst, isN_dct, len_lst, len_tup, len_frl, len_str, toInt_i, toInt_b, toList_l, toList_t, toTup_l, toTup_t, rev_l, rev_t, lrng_, ix_l, ix_t, ix_s, kIx_, kIxC_, slLo_, slHi_, sl_l, sl_t, sl_s, mtTy_l, mtTy_t, mtTy_s, isi_non_int, isi_bl_int, isi_int_int, isi_str_int, isi_tup_int, isi_lst_int, isi_dct_int, isi_non_bool, isi_bl_bool, isi_int_bool, isi_str_bool, isi_tup_bool, isi_lst_bool, isi_dct_bool, isi_non_str, isi_bl_str, isi_int_str, isi_str_str, isi_tup_str, isi_lst_str, isi_dct_str, isi_non_tuple, isi_bl_tuple, isi_int_tuple, isi_str_tuple, isi_tup_tuple, isi_lst_tuple, isi_dct_tuple, isi_non_list, isi_bl_list, isi_int_list, isi_str_list, isi_tup_list, isi_lst_list, isi_dct_list, isi_non_tuplelist, isi_bl_tuplelist, isi_int_tuplelist, isi_str_tuplelist, isi_tup_tuplelist, isi_lst_tuplelist, isi_dct_tuplelist, isi_non_intstr, isi_bl_intstr, isi_int_intstr, isi_str_intstr, isi_tup_intstr, isi_lst_intstr, isi_dct_intstr, wT_k, wT_v, wT_op, wT_call, wT_and, wT_or, wT_not, kTAnd_, kTOr_, kTNot_, kTr_v, kTr_t, kTr_b, kTru_, kTruB_, tr_non, tr_bl, tr_int, tr_str, tr_tup, tr_lst, wI_seq, kSeq_v, kSeq_t, kSeq_b, wI_enum, kEnum_v, kEnum_t, kEnum_b, wI_rng1, kR1_v, kR1_t, kR1_b, kR1i_, wI_rng2, kR2_v, kR2_t, kR2_b, kR2b_v, kR2b_t, kR2b_b, kR2i_, wI_zip, kZip_v, kZip_t, kZip_b, kZip2_v, kZip2_t, kZip2_b, sd_seq, sd_enum, sd_rng, sd_zip, kM1_, kM2_, it_seq_n, it_rng_n, it_seq_t, it_rng_t, it_enl_t, it_ent_t, it_zpl_t, it_zpt_t, it_seq_u, it_rng_u, it_enl_u, it_ent_u, it_zpl_u, it_zpt_u, sqi_l, sqi_t, sqi_f, fz_seq, fz_enum, fz_rng, fz_zvv, kFq_, frz_v, frz_t, kFb_v, kFb_o, wSs_n, wSs_c, wSs_g, wSs_z, kFrz_v, kFrz_o, seqE_nx, seqE_rt, seqE_bk, seqE_ct, topE_nx, topE_rt, outF_, nrm_v, nrm_n, nrm_o, fgtF_n, fgtF_c, fg1_z, fg1_s, fgS_n, fgS_v, fgS_o, fgS_b, wS_set, kSet_tn, kSet_tt, kSet_tu, kSet_v, kSet_b, kSetB_v, kSetB_o, kPutE_, asgT_n, asgT_t, asgT_u, asgAll_n, asgAll_c, kA2_, putSl_, kPut_n, kPut_v, kPut_o, wS_setLc, kSetLc_, wS_setIx, kX1_v, kX1_t, kX1_b, kX1B_v, kX1B_o, kX2_, kX3_v, kX3_t, kX3_b, kX4_, kX5_, wS_ex, kEx_v, kEx_t, kEx_b, wS_ret, kRet_v, kRet_t, kRet_b, kRetB_v, kRetB_o, wS_retN, wS_aug, kAug_, kAu_v, kAu_t, kAu_b, kAui_a, kAui_s, wS_ite, kIte_, wS_for, kFor_, kForS_, kForD_, kForI_, forGo_n, forGo_c, kForC_, loopE_nx, loopE_ct, loopE_bk, loopE_rt, wS_fof, kFof_, kFofS_, kFofD_, kFofI_, forGoF_n, forGoF_c, kFofC_, loopF_nx, loopF_ct, loopF_bk, loopF_rt, wS_brk, wS_cnt, wS_pass, wipe_n, wipe_c, rest_n, rest_c, getD_z, getD_s, ownB_n, ownB_c, isOwn_, kIo_n, kIo_v, kIo_o, sb_seq, sb_enum, sb_rng, sb_zip, rb_v, rb_t, rb_b, line_ok, line_lt, List.getElem?_cons_zero, List.getElem?_cons_succ, List.getElem?_nil, List.set_cons_zero, List.set_cons_succ, List.take_succ_cons, List.take_zero, List.map_cons, List.map_nil, List.length_cons, List.length_nil, List.length_map, List.nodup_cons, List.nodup_nil, List.not_mem_nil, List.mem_cons, List.mem_singleton, not_false_eq_true, true_and, and_true, and_self, ite_true, ite_false, if_true, if_false, Bool.false_eq_true, Bool.true_eq_false, Bool.not_true, Bool.not_false, Bool.not_not, Bool.and_true, Bool.true_and, Bool.and_false, Bool.false_and, Bool.or_true, Bool.or_false, bne_iff_ne, beq_iff_eq, decide_eq_true_eq, decide_eq_false_iff_not, Bool.not_eq_true', Bool.not_eq_eq_eq_not, List.contains_nil, List.contains_cons, List.cons_append, List.nil_append, List.append_nil, List.replicate_succ, List.replicate_zero, ne_eq, reduceCtorEq, Nat.lt_irrefl, Option.some.injEq, Int.ofNat_eq_natCast, Nat.zero_lt_succ, Nat.add_lt_add_iff_right, Nat.zero_add, decide_true, decide_false, Bool.decide_eq_true, false_or, or_false, Nat.reduceLeDiff, Nat.reduceAdd, Nat.reduceSub, Nat.reduceLT, Nat.reduceEqDiff, Nat.reduceBEq, Nat.reduceMul, Nat.reducePow, Int.reduceLT, Int.reduceLE, Int.reduceNeg, Int.reduceAdd, Int.reduceSub, Int.reduceMul, Int.reducePow, Int.reduceToNat, Int.reduceEq, Int.reduceBEq, Int.reduceNe, reduceIte, decide_not, eq_self, not_true_eq_false, imp_self, Bool.and_self, Bool.or_self, Bool.and_eq_true, Bool.or_eq_true, Bool.or_eq_false_iff, Bool.true_or, Bool.false_or, Bool.false_bne, Bool.bne_false, Bool.bne_true, $args,*])
local macro_rules
  | `(tactic| simp!) => `(tactic| simp only [frz_b, wE_k, wE_v, kV_v, kV_o, wE_fz, kFz_v, kFz_t, kFz_b, kFzB_v, kFzB_o, wEs_n, wEs_c, kCons_v, kCons_t, kCons_b, kPush_, wE_op, kOp_, wE_mt, kMt_v, kMt_t, kMt_b, wE_sl2, kS1_v, kS1_t, kS1_b, kS2_v, kS2_t, kS2_b, kS2i_i, kS3_v, kS3_t, kS3_b, kS3i_i, kRd_v, kRd_t, kRd_b, wE_and, kAnd_v, kAnd_t, kAnd_b, kAndB_, wE_or, kOr_v, kOr_t, kOr_b, kOrB_, wE_not, kNot_v, kNot_t, kNot_b, kNotB_, wE_ife, kIfe_, wE_tup, kTup_, wE_lst, kLst_, wZ_n, wZ_c, kZ_v, kZ_t, kZ_b, kZB_v, kZB_o, kZp_, wE_call, kCall_, kCallS_, kOut_v, kOut_t, kOut_b, kGb_, argSls_n, argSls_c, kSlc_, argSl_v, argSl_t, argSl_b, kAs_v, kAs_o, bors_n, bors_v, bors_t, bors_b, gb_n, gb_v, gb_t, gb_o, kGv_, gb_w, kGw_, wE_lc, kLc_, kLcD_, kLcI_, kLcE_, lcT_, kTu_, wO_n, wO_s, kTc_, kTe_v, kTe_t, kTe_b, kTeB_v, kTeB_o, wE_ssc, kSsc_, kSscD_, kSscI_, sscT_, kTsu_, kTsc_, kTse_v, op_add, op_sub, op_mul, op_fdiv, op_mod, op_pow, op_shl, op_shr, op_neg, op_eq, op_ne, op_lt, op_le, op_gt, op_ge, op_isin, op_notin, op_isN, op_notN, op_len, op_toInt, op_toList, op_toTup, op_sum, op_max1, op_min1, op_any, op_all, op_sorted, op_max2, op_min2, op_ix, op_slAll, op_slLo, op_slHi, op_join, op_dget2, op_setIx, op_sortSet, op_slRev, op_lrng, op_indexL, op_indexT, op_isi, kDer_, derefs_n, derefs_c, kDc_, deref_v, deref_t, deref_b, kDb_v, kDb_o, op_pop, kPop_, kPopL_, op_append, kApp_, op_insert, kIns_, op_reverse, kRev_, rd_add, rd_mul, rd_eq, rd_ne, rd_lt, rd_gt, rd_ix, rd_slLo, rd_slHi, rd_join, rd_indexL, rd_indexT, rd_isN, rd_notN, rd_len, rd_toInt, rd_toList, rd_toTup, rd_any, rd_all, rd_max1, rd_min1, rd_sum, rd_sorted, rd_sortSet, rd_slRev, rd_lrng, rd_sub, rd_fdiv, rd_mod, rd_pow, rd_shl, rd_shr, rd_le, rd_ge, rd_max2, rd_min2, rd_neg, rd_isin, rd_notin, rd_slAll, rd_isi, add_i, add_s, add_l, add_t, mul_i, mul_s, eq_, lt_i, lt_s, gt_i, gt_s, in_l, in_t, isN_non, isN_bl, isN_int, isN_str, isN_tup, isN_lst, isN_dct, len_lst, len_tup, len_frl, len_str, toInt_i, toInt_b, toList_l, toList_t, toTup_l, toTup_t, rev_l, rev_t, lrng_, ix_l, ix_t, ix_s, kIx_, kIxC_, slLo_, slHi_, sl_l, sl_t, sl_s, mtTy_l, mtTy_t, mtTy_s, isi_non_int, isi_bl_int, isi_int_int, isi_str_int, isi_tup_int, isi_lst_int, isi_dct_int, isi_non_bool, isi_bl_bool, isi_int_bool, isi_str_bool, isi_tup_bool, isi_lst_bool, isi_dct_bool, isi_non_str, isi_bl_str, isi_int_str, isi_str_str, isi_tup_str, isi_lst_str, isi_dct_str, isi_non_tuple, isi_bl_tuple, isi_int_tuple, isi_str_tuple, isi_tup_tuple, isi_lst_tuple, isi_dct_tuple, isi_non_list, isi_bl_list, isi_int_list, isi_str_list, isi_tup_list, isi_lst_list, isi_dct_list, isi_non_tuplelist, isi_bl_tuplelist, isi_int_tuplelist, isi_str_tuplelist, isi_tup_tuplelist, isi_lst_tuplelist, isi_dct_tuplelist, isi_non_intstr, isi_bl_intstr, isi_int_intstr, isi_str_intstr, isi_tup_intstr, isi_lst_intstr, isi_dct_intstr, wT_k, wT_v, wT_op, wT_call, wT_and, wT_or, wT_not, kTAnd_, kTOr_, kTNot_, kTr_v, kTr_t, kTr_b, kTru_, kTruB_, tr_non, tr_bl, tr_int, tr_str, tr_tup, tr_lst, wI_seq, kSeq_v, kSeq_t, kSeq_b, wI_enum, kEnum_v, kEnum_t, kEnum_b, wI_rng1, kR1_v, kR1_t, kR1_b, kR1i_, wI_rng2, kR2_v, kR2_t, kR2_b, kR2b_v, kR2b_t, kR2b_b, kR2i_, wI_zip, kZip_v, kZip_t, kZip_b, kZip2_v, kZip2_t, kZip2_b, sd_seq, sd_enum, sd_rng, sd_zip, kM1_, kM2_, it_seq_n, it_rng_n, it_seq_t, it_rng_t, it_enl_t, it_ent_t, it_zpl_t, it_zpt_t, it_seq_u, it_rng_u, it_enl_u, it_ent_u, it_zpl_u, it_zpt_u, sqi_l, sqi_t, sqi_f, fz_seq, fz_enum, fz_rng, fz_zvv, kFq_, frz_v, frz_t, kFb_v, kFb_o, wSs_n, wSs_c, wSs_g, wSs_z, kFrz_v, kFrz_o, seqE_nx, seqE_rt, seqE_bk, seqE_ct, topE_nx, topE_rt, outF_, nrm_v, nrm_n, nrm_o, fgtF_n, fgtF_c, fg1_z, fg1_s, fgS_n, fgS_v, fgS_o, fgS_b, wS_set, kSet_tn, kSet_tt, kSet_tu, kSet_v, kSet_b, kSetB_v, kSetB_o, kPutE_, asgT_n, asgT_t, asgT_u, asgAll_n, asgAll_c, kA2_, putSl_, kPut_n, kPut_v, kPut_o, wS_setLc, kSetLc_, wS_setIx, kX1_v, kX1_t, kX1_b, kX1B_v, kX1B_o, kX2_, kX3_v, kX3_t, kX3_b, kX4_, kX5_, wS_ex, kEx_v, kEx_t, kEx_b, wS_ret, kRet_v, kRet_t, kRet_b, kRetB_v, kRetB_o, wS_retN, wS_aug, kAug_, kAu_v, kAu_t, kAu_b, kAui_a, kAui_s, wS_ite, kIte_, wS_for, kFor_, kForS_, kForD_, kForI_, forGo_n, forGo_c, kForC_, loopE_nx, loopE_ct, loopE_bk, loopE_rt, wS_fof, kFof_, kFofS_, kFofD_, kFofI_, forGoF_n, forGoF_c, kFofC_, loopF_nx, loopF_ct, loopF_bk, loopF_rt, wS_brk, wS_cnt, wS_pass, wipe_n, wipe_c, rest_n, rest_c, getD_z, getD_s, ownB_n, ownB_c, isOwn_, kIo_n, kIo_v, kIo_o, sb_seq, sb_enum, sb_rng, sb_zip, rb_v, rb_t, rb_b, line_ok, line_lt, List.getElem?_cons_zero, List.getElem?_cons_succ, List.getElem?_nil, List.set_cons_zero, List.set_cons_succ, List.take_succ_cons, List.take_zero, List.map_cons, List.map_nil, List.length_cons, List.length_nil, List.length_map, List.nodup_cons, List.nodup_nil, List.not_mem_nil, List.mem_cons, List.mem_singleton, not_false_eq_true, true_and, and_true, and_self, ite_true, ite_false, if_true, if_false, Bool.false_eq_true, Bool.true_eq_false, Bool.not_true, Bool.not_false, Bool.not_not, Bool.and_true, Bool.true_and, Bool.and_false, Bool.false_and, Bool.or_true, Bool.or_false, bne_iff_ne, beq_iff_eq, decide_eq_true_eq, decide_eq_false_iff_not, Bool.not_eq_true', Bool.not_eq_eq_eq_not, List.contains_nil, List.contains_cons, List.cons_append, List.nil_append, List.append_nil, List.replicate_succ, List.replicate_zero, ne_eq, reduceCtorEq, Nat.lt_irrefl, Option.some.injEq, Int.ofNat_eq_natCast, Nat.zero_lt_succ, Nat.add_lt_add_iff_right, Nat.zero_add, decide_true, decide_false, Bool.decide_eq_true, false_or, or_false, Nat.reduceLeDiff, Nat.reduceAdd, Nat.reduceSub, Nat.reduceLT, Nat.reduceEqDiff, Nat.reduceBEq, Nat.reduceMul, Nat.reducePow, Int.reduceLT, Int.reduceLE, Int.reduceNeg, Int.reduceAdd, Int.reduceSub, Int.reduceMul, Int.reducePow, Int.reduceToNat, Int.reduceEq, Int.reduceBEq, Int.reduceNe, reduceIte, decide_not, eq_self, not_true_eq_false, imp_self, Bool.and_self, Bool.or_self, Bool.and_eq_true, Bool.or_eq_true, Bool.or_eq_false_iff, Bool.true_or, Bool.false_or, Bool.false_bne, Bool.bne_false, Bool.bne_true])
local macro_rules
  | `(tactic| simp! at $h:ident) => `(tactic| simp only [frz_b, wE_k, wE_v, kV_v, kV_o, wE_fz, kFz_v, kFz_t, kFz_b, kFzB_v, kFzB_o, wEs_n, wEs_c, kCons_v, kCons_t, kCons_b, kPush_, wE_op, kOp_, wE_mt, kMt_v, kMt_t, kMt_b, wE_sl2, kS1_v, kS1_t, kS1_b, kS2_v, kS2_t, kS2_b, kS2i_i, kS3_v, kS3_t, kS3_b, kS3i_i, kRd_v, kRd_t, kRd_b, wE_and, kAnd_v, kAnd_t, kAnd_b, kAndB_, wE_or, kOr_v, kOr_t, kOr_b, kOrB_, wE_not, kNot_v, kNot_t, kNot_b, kNotB_, wE_ife, kIfe_, wE_tup, kTup_, wE_lst, kLst_, wZ_n, wZ_c, kZ_v, kZ_t, kZ_b, kZB_v, kZB_o, kZp_, wE_call, kCall_, kCallS_, kOut_v, kOut_t, kOut_b, kGb_, argSls_n, argSls_c, kSlc_, argSl_v, argSl_t, argSl_b, kAs_v, kAs_o, bors_n, bors_v, bors_t, bors_b, gb_n, gb_v, gb_t, gb_o, kGv_, gb_w, kGw_, wE_lc, kLc_, kLcD_, kLcI_, kLcE_, lcT_, kTu_, wO_n, wO_s, kTc_, kTe_v, kTe_t, kTe_b, kTeB_v, kTeB_o, wE_ssc, kSsc_, kSscD_, kSscI_, sscT_, kTsu_, kTsc_, kTse_v, op_add, op_sub, op_mul, op_fdiv, op_mod, op_pow, op_shl, op_shr, op_neg, op_eq, op_ne, op_lt, op_le, op_gt, op_ge, op_isin, op_notin, op_isN, op_notN, op_len, op_toInt, op_toList, op_toTup, op_sum, op_max1, op_min1, op_any, op_all, op_sorted, op_max2, op_min2, op_ix, op_slAll, op_slLo, op_slHi, op_join, op_dget2, op_setIx, op_sortSet, op_slRev, op_lrng, op_indexL, op_indexT, op_isi, kDer_, derefs_n, derefs_c, kDc_, deref_v, deref_t, deref_b, kDb_v, kDb_o, op_pop, kPop_, kPopL_, op_append, kApp_, op_insert, kIns_, op_reverse, kRev_, rd_add, rd_mul, rd_eq, rd_ne, rd_lt, rd_gt, rd_ix, rd_slLo, rd_slHi, rd_join, rd_indexL, rd_indexT, rd_isN, rd_notN, rd_len, rd_toInt, rd_toList, rd_toTup, rd_any, rd_all, rd_max1, rd_min1, rd_sum, rd_sorted, rd_sortSet, rd_slRev, rd_lrng, rd_sub, rd_fdiv, rd_mod, rd_pow, rd_shl, rd_shr, rd_le, rd_ge, rd_max2, rd_min2, rd_neg, rd_isin, rd_notin, rd_slAll, rd_isi, add_i, add_s, add_l, add_t, mul_i, mul_s, eq_, lt_i, lt_s, gt_i, gt_s, in_l, in_t, isN_non, isN_bl, isN_int, isN_str, isN_tup, isN_lst, isN_dct, len_lst, len_tup, len_frl, len_str, toInt_i, toInt_b, toList_l, toList_t, toTup_l, toTup_t, rev_l, rev_t, lrng_, ix_l, ix_t, ix_s, kIx_, kIxC_, slLo_, slHi_, sl_l, sl_t, sl_s, mtTy_l, mtTy_t, mtTy_s, isi_non_int, isi_bl_int, isi_int_int, isi_str_int, isi_tup_int, isi_lst_int, isi_dct_int, isi_non_bool, isi_bl_bool, isi_int_bool, isi_str_bool, isi_tup_bool, isi_lst_bool, isi_dct_bool, isi_non_str, isi_bl_str, isi_int_str, isi_str_str, isi_tup_str, isi_lst_str, isi_dct_str, isi_non_tuple, isi_bl_tuple, isi_int_tuple, isi_str_tuple, isi_tup_tuple, isi_lst_tuple, isi_dct_tuple, isi_non_list, isi_bl_list, isi_int_list, isi_str_list, isi_tup_list, isi_lst_list, isi_dct_list, isi_non_tuplelist, isi_bl_tuplelist, isi_int_tuplelist, isi_str_tuplelist, isi_tup_tuplelist, isi_lst_tuplelist, isi_dct_tuplelist, isi_non_intstr, isi_bl_intstr, isi_int_intstr, isi_str_intstr, isi_tup_intstr, isi_lst_intstr, isi_dct_intstr, wT_k, wT_v, wT_op, wT_call, wT_and, wT_or, wT_not, kTAnd_, kTOr_, kTNot_, kTr_v, kTr_t, kTr_b, kTru_, kTruB_, tr_non, tr_bl, tr_int, tr_str, tr_tup, tr_lst, wI_seq, kSeq_v, kSeq_t, kSeq_b, wI_enum, kEnum_v, kEnum_t, kEnum_b, wI_rng1, kR1_v, kR1_t, kR1_b, kR1i_, wI_rng2, kR2_v, kR2_t, kR2_b, kR2b_v, kR2b_t, kR2b_b, kR2i_, wI_zip, kZip_v, kZip_t, kZip_b, kZip2_v, kZip2_t, kZip2_b, sd_seq, sd_enum, sd_rng, sd_zip, kM1_, kM2_, it_seq_n, it_rng_n, it_seq_t, it_rng_t, it_enl_t, it_ent_t, it_zpl_t, it_zpt_t, it_seq_u, it_rng_u, it_enl_u, it_ent_u, it_zpl_u, it_zpt_u, sqi_l, sqi_t, sqi_f, fz_seq, fz_enum, fz_rng, fz_zvv, kFq_, frz_v, frz_t, kFb_v, kFb_o, wSs_n, wSs_c, wSs_g, wSs_z, kFrz_v, kFrz_o, seqE_nx, seqE_rt, seqE_bk, seqE_ct, topE_nx, topE_rt, outF_, nrm_v, nrm_n, nrm_o, fgtF_n, fgtF_c, fg1_z, fg1_s, fgS_n, fgS_v, fgS_o, fgS_b, wS_set, kSet_tn, kSet_tt, kSet_tu, kSet_v, kSet_b, kSetB_v, kSetB_o, kPutE_, asgT_n, asgT_t, asgT_u, asgAll_n, asgAll_c, kA2_, putSl_, kPut_n, kPut_v, kPut_o, wS_setLc, kSetLc_, wS_setIx, kX1_v, kX1_t, kX1_b, kX1B_v, kX1B_o, kX2_, kX3_v, kX3_t, kX3_b, kX4_, kX5_, wS_ex, kEx_v, kEx_t, kEx_b, wS_ret, kRet_v, kRet_t, kRet_b, kRetB_v, kRetB_o, wS_retN, wS_aug, kAug_, kAu_v, kAu_t, kAu_b, kAui_a, kAui_s, wS_ite, kIte_, wS_for, kFor_, kForS_, kForD_, kForI_, forGo_n, forGo_c, kForC_, loopE_nx, loopE_ct, loopE_bk, loopE_rt, wS_fof, kFof_, kFofS_, kFofD_, kFofI_, forGoF_n, forGoF_c, kFofC_, loopF_nx, loopF_ct, loopF_bk, loopF_rt, wS_brk, wS_cnt, wS_pass, wipe_n, wipe_c, rest_n, rest_c, getD_z, getD_s, ownB_n, ownB_c, isOwn_, kIo_n, kIo_v, kIo_o, sb_seq, sb_enum, sb_rng, sb_zip, rb_v, rb_t, rb_b, line_ok, line_lt, List.getElem?_cons_zero, List.getElem?_cons_succ, List.getElem?_nil, List.set_cons_zero, List.set_cons_succ, List.take_succ_cons, List.take_zero, List.map_cons, List.map_nil, List.length_cons, List.length_nil, List.length_map, List.nodup_cons, List.nodup_nil, List.not_mem_nil, List.mem_cons, List.mem_singleton, not_false_eq_true, true_and, and_true, and_self, ite_true, ite_false, if_true, if_false, Bool.false_eq_true, Bool.true_eq_false, Bool.not_true, Bool.not_false, Bool.not_not, Bool.and_true, Bool.true_and, Bool.and_false, Bool.false_and, Bool.or_true, Bool.or_false, bne_iff_ne, beq_iff_eq, decide_eq_true_eq, decide_eq_false_iff_not, Bool.not_eq_true', Bool.not_eq_eq_eq_not, List.contains_nil, List.contains_cons, List.cons_append, List.nil_append, List.append_nil, List.replicate_succ, List.replicate_zero, ne_eq, reduceCtorEq, Nat.lt_irrefl, Option.some.injEq, Int.ofNat_eq_natCast, Nat.zero_lt_succ, Nat.add_lt_add_iff_right, Nat.zero_add, decide_true, decide_false, Bool.decide_eq_true, false_or, or_false, Nat.reduceLeDiff, Nat.reduceAdd, Nat.reduceSub, Nat.reduceLT, Nat.reduceEqDiff, Nat.reduceBEq, Nat.reduceMul, Nat.reducePow, Int.reduceLT, Int.reduceLE, Int.reduceNeg, Int.reduceAdd, Int.reduceSub, Int.reduceMul, Int.reducePow, Int.reduceToNat, Int.reduceEq, Int.reduceBEq, Int.reduceNe, reduceIte, decide_not, eq_self, not_true_eq_false, imp_self, Bool.and_self, Bool.or_self, Bool.and_eq_true, Bool.or_eq_true, Bool.or_eq_false_iff, Bool.true_or, Bool.false_or, Bool.false_bne, Bool.bne_false, Bool.bne_true] at $h:ident)
/-! NG: the law k52 -/
def AskedOk (C : WC) (i : Nat) : Prop := ∀ (ds : List Int) (d : D) (ts : List Tie) (t : Tie) (Q : Rf → List Sl → Prop), TOk ts → t.1.length ≤ 12 → t.2.length ≤ 340 → (∀ ds : List Int, Q (.val (.bl true)) [oI ds, .none, .none, .none]) → C i [oI ds, .val d, .val (tiesD ts), .val (tieD t)] Q
theorem gp_cut {ps : List D} {lo hi : Option Int} (h : ∀ p ∈ ps, GP p) : ∀ p ∈ cutD ps lo hi, GP p := fun p hp => h p (mem_cutD hp)
theorem asked_ok {C : WC} {j a s p o f l : Nat} (hj : JudgeOk C j) (ha : AreOk C a) (hs : ∀ b : Bool, SameOk C s (.bl b)) (hp : PapOk C p) (ho : OwnOk C o) (hf : LfolOk C f) (hl : LinesOk C l) {ds : List Int} {d : D} {ts : List Tie} {t : Tie} {Q : Rf → List Sl → Prop} (ht : TOk ts) (h1 : t.1.length ≤ 12) (h2 : t.2.length ≤ 340) (q : ∀ ds : List Int, Q (.val (.bl true)) [oI ds, .none, .none, .none]) :
    wSs C (b_law_is_asked_right j a s p o f l) [oI ds, .val d, .val (tiesD ts), .val (tieD t), .none, .none, .none] (topE 4 Q) := by
  have loop : ∀ (ds : List Int) (x : D) (ps : List D), (∀ p ∈ ps, GP p) → wSs C (.cons (.fof [6] (.n 6) (.seq (.v 5)) (.cons (.ite (.not (.call s (.cons (.fz (.call j (.cons (.fz (.v 1)) (.cons (.fz (.v 2)) (.cons (.fz (.v 3)) (.cons (.fz (.v 6)) .nil)))))) (.cons (.fz (.call a (.cons (.fz (.v 2)) (.cons (.fz (.v 3)) (.cons (.fz (.v 6)) .nil))))) .nil)))) (.cons (.ret (.k (.bl false))) .nil) .nil) .nil)) (.cons (.ret (.k (.bl true))) .nil)) [oI ds, .val d, .val (tiesD ts), .val (tieD t), .val x, .val (.lst ps), .none] (topE 4 Q) := fun ds x ps hps => by
    simp!
    refine fof_indD (I := fun us fr => fr = [oI ds, .val d, .val (tiesD ts), .val (tieD t), .val x, .val (.lst ps), .none] ∧ ∀ p ∈ us, GP p) ?_ ?_ ⟨rfl, hps⟩
    · rintro y r fr ⟨rfl, hy⟩ ih
      obtain ⟨ls, rfl, g⟩ := hy y List.mem_cons_self
      simp!
      refine hj _ _ _ _ _ ht h1 h2 g.2 ?_
      simp!
      refine ha _ _ _ _ ht h1 h2 g.1 g.2 ?_
      simp!
      refine hs _ _ fun s1 s2 => ?_
      simp!
      exact ih _ ⟨rfl, fun p hp => hy p (List.mem_cons_of_mem _ hp)⟩
    · rintro fr ⟨rfl, _⟩
      simp!
      exact q ds
  unfold b_law_is_asked_right
  simp!
  refine hl _ _ _ _ ht h1 h2 (fun ef => ?_) fun ef is i1 i2 i3 => ?_
  · simp!
    refine hf _ _ _ ht (by omega) (by omega) fun s1 s2 => ?_
    rw [ef]
    simp! [eqvD_bl, pl_bl]
    refine ho _ _ _ _ ht h1 fun ds2 is i1 i2 => ?_
    simp!
    refine hp _ _ _ _ ht i1 (by omega) fun ds3 ps g1 g2 => ?_
    simp!
    have := loop ds3 .non ps g1
    simp! at this
    exact this
  · simp!
    refine hf _ _ _ ht (by omega) (by omega) fun s1 s2 => ?_
    rw [ef]
    simp! [eqvD_bl, pl_bl]
    refine ho _ _ _ _ ht h1 fun ds2 js j1 j2 => ?_
    simp!
    refine hp _ _ _ _ ht j1 (by omega) fun ds3 ps g1 g2 => ?_
    simp!
    have gl : GL 240 (is.map D.int) := ⟨by rw [List.length_map]; exact i2, fun d hd => by
      obtain ⟨i, _, rfl⟩ := List.mem_map.mp hd
      exact ld_int⟩
    refine ha _ _ _ _ ht h1 h2 (by have := gl.1; omega) gl.2 ?_
    rw [i3]
    simp!
    refine ⟨line5 (by omega), ?_⟩
    refine hp _ _ _ _ ht i1 (by omega) fun ds4 ps2 g3 g4 => ?_
    have c := cutD_le (xs := ps2) (lo := some 6) (hi := none)
    simp! [List.length_append]
    refine ⟨line5 (by omega), ?_⟩
    have := loop ds4 (tI is) ((ps ++ [tI is]) ++ cutD ps2 (some 6) none) fun p hp => by
      rcases (List.mem_append.mp hp) with hp | hp
      · rcases (List.mem_append.mp hp) with hp | hp
        · exact g1 p hp
        · cases List.mem_singleton.mp hp
          exact gp_of gl (by omega)
      · exact g3 p (mem_cutD hp)
    simp! at this
    exact this
end QL
set_option maxHeartbeats 1500000
namespace QL
open PySem L2
local macro_rules
  | `(tactic| simp! [$args,*]) => `(tactic| simp only [frz_b, wE_k, wE_v, kV_v, kV_o, wE_fz, kFz_v, kFz_t, kFz_b, kFzB_v, kFzB_o, wEs_n, wEs_c, kCons_v, kCons_t, kCons_b, kPush_, wE_op, kOp_, wE_mt, kMt_v, kMt_t, kMt_b, wE_sl2, kS1_v, kS1_t, kS1_b, kS2_v, kS2_t, kS2_b, kS2i_i, kS3_v, kS3_t, kS3_b, kS3i_i, kRd_v, kRd_t, kRd_b, wE_and, kAnd_v, kAnd_t, kAnd_b, kAndB_, wE_or, kOr_v, kOr_t, kOr_b, kOrB_, wE_not, kNot_v, kNot_t, kNot_b, kNotB_, wE_ife, kIfe_, wE_tup, kTup_, wE_lst, kLst_, wZ_n, wZ_c, kZ_v, kZ_t, kZ_b, kZB_v, kZB_o, kZp_, wE_call, kCall_, kCallS_, kOut_v, kOut_t, kOut_b, kGb_, argSls_n, argSls_c, kSlc_, argSl_v, argSl_t, argSl_b, kAs_v, kAs_o, bors_n, bors_v, bors_t, bors_b, gb_n, gb_v, gb_t, gb_o, kGv_, gb_w, kGw_, wE_lc, kLc_, kLcD_, kLcI_, kLcE_, lcT_, kTu_, wO_n, wO_s, kTc_, kTe_v, kTe_t, kTe_b, kTeB_v, kTeB_o, wE_ssc, kSsc_, kSscD_, kSscI_, sscT_, kTsu_, kTsc_, kTse_v, op_add, op_sub, op_mul, op_fdiv, op_mod, op_pow, op_shl, op_shr, op_neg, op_eq, op_ne, op_lt, op_le, op_gt, op_ge, op_isin, op_notin, op_isN, op_notN, op_len, op_toInt, op_toList, op_toTup, op_sum, op_max1, op_min1, op_any, op_all, op_sorted, op_max2, op_min2, op_ix, op_slAll, op_slLo, op_slHi, op_join, op_dget2, op_setIx, op_sortSet, op_slRev, op_lrng, op_indexL, op_indexT, op_isi, kDer_, derefs_n, derefs_c, kDc_, deref_v, deref_t, deref_b, kDb_v, kDb_o, op_pop, kPop_, kPopL_, op_append, kApp_, op_insert, kIns_, op_reverse, kRev_, rd_add, rd_mul, rd_eq, rd_ne, rd_lt, rd_gt, rd_ix, rd_slLo, rd_slHi, rd_join, rd_indexL, rd_indexT, rd_isN, rd_notN, rd_len, rd_toInt, rd_toList, rd_toTup, rd_any, rd_all, rd_max1, rd_min1, rd_sum, rd_sorted, rd_sortSet, rd_slRev, rd_lrng, rd_sub, rd_fdiv, rd_mod, rd_pow, rd_shl, rd_shr, rd_le, rd_ge, rd_max2, rd_min2, rd_neg, rd_isin, rd_notin, rd_slAll, rd_isi, add_i, add_s, add_l, add_t, mul_i, mul_s, eq_, lt_i, lt_s, gt_i, gt_s, in_l, in_t, isN_non, isN_bl, isN_int, isN_str, isN_tup, isN_lst, isN_dct, len_lst, len_tup, len_frl, len_str, toInt_i, toInt_b, toList_l, toList_t, toTup_l, toTup_t, rev_l, rev_t, lrng_, ix_l, ix_t, ix_s, kIx_, kIxC_, slLo_, slHi_, sl_l, sl_t, sl_s, mtTy_l, mtTy_t, mtTy_s, isi_non_int, isi_bl_int, isi_int_int, isi_str_int, isi_tup_int, isi_lst_int, isi_dct_int, isi_non_bool, isi_bl_bool, isi_int_bool, isi_str_bool, isi_tup_bool, isi_lst_bool, isi_dct_bool, isi_non_str, isi_bl_str, isi_int_str, isi_str_str, isi_tup_str, isi_lst_str, isi_dct_str, isi_non_tuple, isi_bl_tuple, isi_int_tuple, isi_str_tuple, isi_tup_tuple, isi_lst_tuple, isi_dct_tuple, isi_non_list, isi_bl_list, isi_int_list, isi_str_list, isi_tup_list, isi_lst_list, isi_dct_list, isi_non_tuplelist, isi_bl_tuplelist, isi_int_tuplelist, isi_str_tuplelist, isi_tup_tuplelist, isi_lst_tuplelist, isi_dct_tuplelist, isi_non_intstr, isi_bl_intstr, isi_int_intstr, isi_str_intstr, isi_tup_intstr, isi_lst_intstr, isi_dct_intstr, wT_k, wT_v, wT_op, wT_call, wT_and, wT_or, wT_not, kTAnd_, kTOr_, kTNot_, kTr_v, kTr_t, kTr_b, kTru_, kTruB_, tr_non, tr_bl, tr_int, tr_str, tr_tup, tr_lst, wI_seq, kSeq_v, kSeq_t, kSeq_b, wI_enum, kEnum_v, kEnum_t, kEnum_b, wI_rng1, kR1_v, kR1_t, kR1_b, kR1i_, wI_rng2, kR2_v, kR2_t, kR2_b, kR2b_v, kR2b_t, kR2b_b, kR2i_, wI_zip, kZip_v, kZip_t, kZip_b, kZip2_v, kZip2_t, kZip2_b, sd_seq, sd_enum, sd_rng, sd_zip, kM1_, kM2_, it_seq_n, it_rng_n, it_seq_t, it_rng_t, it_enl_t, it_ent_t, it_zpl_t, it_zpt_t, it_seq_u, it_rng_u, it_enl_u, it_ent_u, it_zpl_u, it_zpt_u, sqi_l, sqi_t, sqi_f, fz_seq, fz_enum, fz_rng, fz_zvv, kFq_, frz_v, frz_t, kFb_v, kFb_o, wSs_n, wSs_c, wSs_g, wSs_z, kFrz_v, kFrz_o, seqE_nx, seqE_rt, seqE_bk, seqE_ct, topE_nx, topE_rt, outF_, nrm_v, nrm_n, nrm_o, fgtF_n, fgtF_c, fg1_z, fg1_s, fgS_n, fgS_v, fgS_o, fgS_b, wS_set, kSet_tn, kSet_tt, kSet_tu, kSet_v, kSet_b, kSetB_v, kSetB_o, kPutE_, asgT_n, asgT_t, asgT_u, asgAll_n, asgAll_c, kA2_, putSl_, kPut_n, kPut_v, kPut_o, wS_setLc, kSetLc_, wS_setIx, kX1_v, kX1_t, kX1_b, kX1B_v, kX1B_o, kX2_, kX3_v, kX3_t, kX3_b, kX4_, kX5_, wS_ex, kEx_v, kEx_t, kEx_b, wS_ret, kRet_v, kRet_t, kRet_b, kRetB_v, kRetB_o, wS_retN, wS_aug, kAug_, kAu_v, kAu_t, kAu_b, kAui_a, kAui_s, wS_ite, kIte_, wS_for, kFor_, kForS_, kForD_, kForI_, forGo_n, forGo_c, kForC_, loopE_nx, loopE_ct, loopE_bk, loopE_rt, wS_fof, kFof_, kFofS_, kFofD_, kFofI_, forGoF_n, forGoF_c, kFofC_, loopF_nx, loopF_ct, loopF_bk, loopF_rt, wS_brk, wS_cnt, wS_pass, wipe_n, wipe_c, rest_n, rest_c, getD_z, getD_s, ownB_n, ownB_c, isOwn_, kIo_n, kIo_v, kIo_o, sb_seq, sb_enum, sb_rng, sb_zip, rb_v, rb_t, rb_b, line_ok, line_lt, List.getElem?_cons_zero, List.getElem?_cons_succ, List.getElem?_nil, List.set_cons_zero, List.set_cons_succ, List.take_succ_cons, List.take_zero, List.map_cons, List.map_nil, List.length_cons, List.length_nil, List.length_map, List.nodup_cons, List.nodup_nil, List.not_mem_nil, List.mem_cons, List.mem_singleton, not_false_eq_true, true_and, and_true, and_self, ite_true, ite_false, if_true, if_false, Bool.false_eq_true, Bool.true_eq_false, Bool.not_true, Bool.not_false, Bool.not_not, Bool.and_true, Bool.true_and, Bool.and_false, Bool.false_and, Bool.or_true, Bool.or_false, bne_iff_ne, beq_iff_eq, decide_eq_true_eq, decide_eq_false_iff_not, Bool.not_eq_true', Bool.not_eq_eq_eq_not, List.contains_nil, List.contains_cons, List.cons_append, List.nil_append, List.append_nil, List.replicate_succ, List.replicate_zero, ne_eq, reduceCtorEq, Nat.lt_irrefl, Option.some.injEq, Int.ofNat_eq_natCast, Nat.zero_lt_succ, Nat.add_lt_add_iff_right, Nat.zero_add, decide_true, decide_false, Bool.decide_eq_true, false_or, or_false, Nat.reduceLeDiff, Nat.reduceAdd, Nat.reduceSub, Nat.reduceLT, Nat.reduceEqDiff, Nat.reduceBEq, Nat.reduceMul, Nat.reducePow, Int.reduceLT, Int.reduceLE, Int.reduceNeg, Int.reduceAdd, Int.reduceSub, Int.reduceMul, Int.reducePow, Int.reduceToNat, Int.reduceEq, Int.reduceBEq, Int.reduceNe, reduceIte, decide_not, eq_self, not_true_eq_false, imp_self, Bool.and_self, Bool.or_self, Bool.and_eq_true, Bool.or_eq_true, Bool.or_eq_false_iff, Bool.true_or, Bool.false_or, Bool.false_bne, Bool.bne_false, Bool.bne_true, $args,*])
local macro_rules
  | `(tactic| simp!) => `(tactic| simp only [frz_b, wE_k, wE_v, kV_v, kV_o, wE_fz, kFz_v, kFz_t, kFz_b, kFzB_v, kFzB_o, wEs_n, wEs_c, kCons_v, kCons_t, kCons_b, kPush_, wE_op, kOp_, wE_mt, kMt_v, kMt_t, kMt_b, wE_sl2, kS1_v, kS1_t, kS1_b, kS2_v, kS2_t, kS2_b, kS2i_i, kS3_v, kS3_t, kS3_b, kS3i_i, kRd_v, kRd_t, kRd_b, wE_and, kAnd_v, kAnd_t, kAnd_b, kAndB_, wE_or, kOr_v, kOr_t, kOr_b, kOrB_, wE_not, kNot_v, kNot_t, kNot_b, kNotB_, wE_ife, kIfe_, wE_tup, kTup_, wE_lst, kLst_, wZ_n, wZ_c, kZ_v, kZ_t, kZ_b, kZB_v, kZB_o, kZp_, wE_call, kCall_, kCallS_, kOut_v, kOut_t, kOut_b, kGb_, argSls_n, argSls_c, kSlc_, argSl_v, argSl_t, argSl_b, kAs_v, kAs_o, bors_n, bors_v, bors_t, bors_b, gb_n, gb_v, gb_t, gb_o, kGv_, gb_w, kGw_, wE_lc, kLc_, kLcD_, kLcI_, kLcE_, lcT_, kTu_, wO_n, wO_s, kTc_, kTe_v, kTe_t, kTe_b, kTeB_v, kTeB_o, wE_ssc, kSsc_, kSscD_, kSscI_, sscT_, kTsu_, kTsc_, kTse_v, op_add, op_sub, op_mul, op_fdiv, op_mod, op_pow, op_shl, op_shr, op_neg, op_eq, op_ne, op_lt, op_le, op_gt, op_ge, op_isin, op_notin, op_isN, op_notN, op_len, op_toInt, op_toList, op_toTup, op_sum, op_max1, op_min1, op_any, op_all, op_sorted, op_max2, op_min2, op_ix, op_slAll, op_slLo, op_slHi, op_join, op_dget2, op_setIx, op_sortSet, op_slRev, op_lrng, op_indexL, op_indexT, op_isi, kDer_, derefs_n, derefs_c, kDc_, deref_v, deref_t, deref_b, kDb_v, kDb_o, op_pop, kPop_, kPopL_, op_append, kApp_, op_insert, kIns_, op_reverse, kRev_, rd_add, rd_mul, rd_eq, rd_ne, rd_lt, rd_gt, rd_ix, rd_slLo, rd_slHi, rd_join, rd_indexL, rd_indexT, rd_isN, rd_notN, rd_len, rd_toInt, rd_toList, rd_toTup, rd_any, rd_all, rd_max1, rd_min1, rd_sum, rd_sorted, rd_sortSet, rd_slRev, rd_lrng, rd_sub, rd_fdiv, rd_mod, rd_pow, rd_shl, rd_shr, rd_le, rd_ge, rd_max2, rd_min2, rd_neg, rd_isin, rd_notin, rd_slAll, rd_isi, add_i, add_s, add_l, add_t, mul_i, mul_s, eq_, lt_i, lt_s, gt_i, gt_s, in_l, in_t, isN_non, isN_bl, isN_int, isN_str, isN_tup, isN_lst, isN_dct, len_lst, len_tup, len_frl, len_str, toInt_i, toInt_b, toList_l, toList_t, toTup_l, toTup_t, rev_l, rev_t, lrng_, ix_l, ix_t, ix_s, kIx_, kIxC_, slLo_, slHi_, sl_l, sl_t, sl_s, mtTy_l, mtTy_t, mtTy_s, isi_non_int, isi_bl_int, isi_int_int, isi_str_int, isi_tup_int, isi_lst_int, isi_dct_int, isi_non_bool, isi_bl_bool, isi_int_bool, isi_str_bool, isi_tup_bool, isi_lst_bool, isi_dct_bool, isi_non_str, isi_bl_str, isi_int_str, isi_str_str, isi_tup_str, isi_lst_str, isi_dct_str, isi_non_tuple, isi_bl_tuple, isi_int_tuple, isi_str_tuple, isi_tup_tuple, isi_lst_tuple, isi_dct_tuple, isi_non_list, isi_bl_list, isi_int_list, isi_str_list, isi_tup_list, isi_lst_list, isi_dct_list, isi_non_tuplelist, isi_bl_tuplelist, isi_int_tuplelist, isi_str_tuplelist, isi_tup_tuplelist, isi_lst_tuplelist, isi_dct_tuplelist, isi_non_intstr, isi_bl_intstr, isi_int_intstr, isi_str_intstr, isi_tup_intstr, isi_lst_intstr, isi_dct_intstr, wT_k, wT_v, wT_op, wT_call, wT_and, wT_or, wT_not, kTAnd_, kTOr_, kTNot_, kTr_v, kTr_t, kTr_b, kTru_, kTruB_, tr_non, tr_bl, tr_int, tr_str, tr_tup, tr_lst, wI_seq, kSeq_v, kSeq_t, kSeq_b, wI_enum, kEnum_v, kEnum_t, kEnum_b, wI_rng1, kR1_v, kR1_t, kR1_b, kR1i_, wI_rng2, kR2_v, kR2_t, kR2_b, kR2b_v, kR2b_t, kR2b_b, kR2i_, wI_zip, kZip_v, kZip_t, kZip_b, kZip2_v, kZip2_t, kZip2_b, sd_seq, sd_enum, sd_rng, sd_zip, kM1_, kM2_, it_seq_n, it_rng_n, it_seq_t, it_rng_t, it_enl_t, it_ent_t, it_zpl_t, it_zpt_t, it_seq_u, it_rng_u, it_enl_u, it_ent_u, it_zpl_u, it_zpt_u, sqi_l, sqi_t, sqi_f, fz_seq, fz_enum, fz_rng, fz_zvv, kFq_, frz_v, frz_t, kFb_v, kFb_o, wSs_n, wSs_c, wSs_g, wSs_z, kFrz_v, kFrz_o, seqE_nx, seqE_rt, seqE_bk, seqE_ct, topE_nx, topE_rt, outF_, nrm_v, nrm_n, nrm_o, fgtF_n, fgtF_c, fg1_z, fg1_s, fgS_n, fgS_v, fgS_o, fgS_b, wS_set, kSet_tn, kSet_tt, kSet_tu, kSet_v, kSet_b, kSetB_v, kSetB_o, kPutE_, asgT_n, asgT_t, asgT_u, asgAll_n, asgAll_c, kA2_, putSl_, kPut_n, kPut_v, kPut_o, wS_setLc, kSetLc_, wS_setIx, kX1_v, kX1_t, kX1_b, kX1B_v, kX1B_o, kX2_, kX3_v, kX3_t, kX3_b, kX4_, kX5_, wS_ex, kEx_v, kEx_t, kEx_b, wS_ret, kRet_v, kRet_t, kRet_b, kRetB_v, kRetB_o, wS_retN, wS_aug, kAug_, kAu_v, kAu_t, kAu_b, kAui_a, kAui_s, wS_ite, kIte_, wS_for, kFor_, kForS_, kForD_, kForI_, forGo_n, forGo_c, kForC_, loopE_nx, loopE_ct, loopE_bk, loopE_rt, wS_fof, kFof_, kFofS_, kFofD_, kFofI_, forGoF_n, forGoF_c, kFofC_, loopF_nx, loopF_ct, loopF_bk, loopF_rt, wS_brk, wS_cnt, wS_pass, wipe_n, wipe_c, rest_n, rest_c, getD_z, getD_s, ownB_n, ownB_c, isOwn_, kIo_n, kIo_v, kIo_o, sb_seq, sb_enum, sb_rng, sb_zip, rb_v, rb_t, rb_b, line_ok, line_lt, List.getElem?_cons_zero, List.getElem?_cons_succ, List.getElem?_nil, List.set_cons_zero, List.set_cons_succ, List.take_succ_cons, List.take_zero, List.map_cons, List.map_nil, List.length_cons, List.length_nil, List.length_map, List.nodup_cons, List.nodup_nil, List.not_mem_nil, List.mem_cons, List.mem_singleton, not_false_eq_true, true_and, and_true, and_self, ite_true, ite_false, if_true, if_false, Bool.false_eq_true, Bool.true_eq_false, Bool.not_true, Bool.not_false, Bool.not_not, Bool.and_true, Bool.true_and, Bool.and_false, Bool.false_and, Bool.or_true, Bool.or_false, bne_iff_ne, beq_iff_eq, decide_eq_true_eq, decide_eq_false_iff_not, Bool.not_eq_true', Bool.not_eq_eq_eq_not, List.contains_nil, List.contains_cons, List.cons_append, List.nil_append, List.append_nil, List.replicate_succ, List.replicate_zero, ne_eq, reduceCtorEq, Nat.lt_irrefl, Option.some.injEq, Int.ofNat_eq_natCast, Nat.zero_lt_succ, Nat.add_lt_add_iff_right, Nat.zero_add, decide_true, decide_false, Bool.decide_eq_true, false_or, or_false, Nat.reduceLeDiff, Nat.reduceAdd, Nat.reduceSub, Nat.reduceLT, Nat.reduceEqDiff, Nat.reduceBEq, Nat.reduceMul, Nat.reducePow, Int.reduceLT, Int.reduceLE, Int.reduceNeg, Int.reduceAdd, Int.reduceSub, Int.reduceMul, Int.reducePow, Int.reduceToNat, Int.reduceEq, Int.reduceBEq, Int.reduceNe, reduceIte, decide_not, eq_self, not_true_eq_false, imp_self, Bool.and_self, Bool.or_self, Bool.and_eq_true, Bool.or_eq_true, Bool.or_eq_false_iff, Bool.true_or, Bool.false_or, Bool.false_bne, Bool.bne_false, Bool.bne_true])
local macro_rules
  | `(tactic| simp! at $h:ident) => `(tactic| simp only [frz_b, wE_k, wE_v, kV_v, kV_o, wE_fz, kFz_v, kFz_t, kFz_b, kFzB_v, kFzB_o, wEs_n, wEs_c, kCons_v, kCons_t, kCons_b, kPush_, wE_op, kOp_, wE_mt, kMt_v, kMt_t, kMt_b, wE_sl2, kS1_v, kS1_t, kS1_b, kS2_v, kS2_t, kS2_b, kS2i_i, kS3_v, kS3_t, kS3_b, kS3i_i, kRd_v, kRd_t, kRd_b, wE_and, kAnd_v, kAnd_t, kAnd_b, kAndB_, wE_or, kOr_v, kOr_t, kOr_b, kOrB_, wE_not, kNot_v, kNot_t, kNot_b, kNotB_, wE_ife, kIfe_, wE_tup, kTup_, wE_lst, kLst_, wZ_n, wZ_c, kZ_v, kZ_t, kZ_b, kZB_v, kZB_o, kZp_, wE_call, kCall_, kCallS_, kOut_v, kOut_t, kOut_b, kGb_, argSls_n, argSls_c, kSlc_, argSl_v, argSl_t, argSl_b, kAs_v, kAs_o, bors_n, bors_v, bors_t, bors_b, gb_n, gb_v, gb_t, gb_o, kGv_, gb_w, kGw_, wE_lc, kLc_, kLcD_, kLcI_, kLcE_, lcT_, kTu_, wO_n, wO_s, kTc_, kTe_v, kTe_t, kTe_b, kTeB_v, kTeB_o, wE_ssc, kSsc_, kSscD_, kSscI_, sscT_, kTsu_, kTsc_, kTse_v, op_add, op_sub, op_mul, op_fdiv, op_mod, op_pow, op_shl, op_shr, op_neg, op_eq, op_ne, op_lt, op_le, op_gt, op_ge, op_isin, op_notin, op_isN, op_notN, op_len, op_toInt, op_toList, op_toTup, op_sum, op_max1, op_min1, op_any, op_all, op_sorted, op_max2, op_min2, op_ix, op_slAll, op_slLo, op_slHi, op_join, op_dget2, op_setIx, op_sortSet, op_slRev, op_lrng, op_indexL, op_indexT, op_isi, kDer_, derefs_n, derefs_c, kDc_, deref_v, deref_t, deref_b, kDb_v, kDb_o, op_pop, kPop_, kPopL_, op_append, kApp_, op_insert, kIns_, op_reverse, kRev_, rd_add, rd_mul, rd_eq, rd_ne, rd_lt, rd_gt, rd_ix, rd_slLo, rd_slHi, rd_join, rd_indexL, rd_indexT, rd_isN, rd_notN, rd_len, rd_toInt, rd_toList, rd_toTup, rd_any, rd_all, rd_max1, rd_min1, rd_sum, rd_sorted, rd_sortSet, rd_slRev, rd_lrng, rd_sub, rd_fdiv, rd_mod, rd_pow, rd_shl, rd_shr, rd_le, rd_ge, rd_max2, rd_min2, rd_neg, rd_isin, rd_notin, rd_slAll, rd_isi, add_i, add_s, add_l, add_t, mul_i, mul_s, eq_, lt_i, lt_s, gt_i, gt_s, in_l, in_t, isN_non, isN_bl, isN_int, isN_str, isN_tup, isN_lst, isN_dct, len_lst, len_tup, len_frl, len_str, toInt_i, toInt_b, toList_l, toList_t, toTup_l, toTup_t, rev_l, rev_t, lrng_, ix_l, ix_t, ix_s, kIx_, kIxC_, slLo_, slHi_, sl_l, sl_t, sl_s, mtTy_l, mtTy_t, mtTy_s, isi_non_int, isi_bl_int, isi_int_int, isi_str_int, isi_tup_int, isi_lst_int, isi_dct_int, isi_non_bool, isi_bl_bool, isi_int_bool, isi_str_bool, isi_tup_bool, isi_lst_bool, isi_dct_bool, isi_non_str, isi_bl_str, isi_int_str, isi_str_str, isi_tup_str, isi_lst_str, isi_dct_str, isi_non_tuple, isi_bl_tuple, isi_int_tuple, isi_str_tuple, isi_tup_tuple, isi_lst_tuple, isi_dct_tuple, isi_non_list, isi_bl_list, isi_int_list, isi_str_list, isi_tup_list, isi_lst_list, isi_dct_list, isi_non_tuplelist, isi_bl_tuplelist, isi_int_tuplelist, isi_str_tuplelist, isi_tup_tuplelist, isi_lst_tuplelist, isi_dct_tuplelist, isi_non_intstr, isi_bl_intstr, isi_int_intstr, isi_str_intstr, isi_tup_intstr, isi_lst_intstr, isi_dct_intstr, wT_k, wT_v, wT_op, wT_call, wT_and, wT_or, wT_not, kTAnd_, kTOr_, kTNot_, kTr_v, kTr_t, kTr_b, kTru_, kTruB_, tr_non, tr_bl, tr_int, tr_str, tr_tup, tr_lst, wI_seq, kSeq_v, kSeq_t, kSeq_b, wI_enum, kEnum_v, kEnum_t, kEnum_b, wI_rng1, kR1_v, kR1_t, kR1_b, kR1i_, wI_rng2, kR2_v, kR2_t, kR2_b, kR2b_v, kR2b_t, kR2b_b, kR2i_, wI_zip, kZip_v, kZip_t, kZip_b, kZip2_v, kZip2_t, kZip2_b, sd_seq, sd_enum, sd_rng, sd_zip, kM1_, kM2_, it_seq_n, it_rng_n, it_seq_t, it_rng_t, it_enl_t, it_ent_t, it_zpl_t, it_zpt_t, it_seq_u, it_rng_u, it_enl_u, it_ent_u, it_zpl_u, it_zpt_u, sqi_l, sqi_t, sqi_f, fz_seq, fz_enum, fz_rng, fz_zvv, kFq_, frz_v, frz_t, kFb_v, kFb_o, wSs_n, wSs_c, wSs_g, wSs_z, kFrz_v, kFrz_o, seqE_nx, seqE_rt, seqE_bk, seqE_ct, topE_nx, topE_rt, outF_, nrm_v, nrm_n, nrm_o, fgtF_n, fgtF_c, fg1_z, fg1_s, fgS_n, fgS_v, fgS_o, fgS_b, wS_set, kSet_tn, kSet_tt, kSet_tu, kSet_v, kSet_b, kSetB_v, kSetB_o, kPutE_, asgT_n, asgT_t, asgT_u, asgAll_n, asgAll_c, kA2_, putSl_, kPut_n, kPut_v, kPut_o, wS_setLc, kSetLc_, wS_setIx, kX1_v, kX1_t, kX1_b, kX1B_v, kX1B_o, kX2_, kX3_v, kX3_t, kX3_b, kX4_, kX5_, wS_ex, kEx_v, kEx_t, kEx_b, wS_ret, kRet_v, kRet_t, kRet_b, kRetB_v, kRetB_o, wS_retN, wS_aug, kAug_, kAu_v, kAu_t, kAu_b, kAui_a, kAui_s, wS_ite, kIte_, wS_for, kFor_, kForS_, kForD_, kForI_, forGo_n, forGo_c, kForC_, loopE_nx, loopE_ct, loopE_bk, loopE_rt, wS_fof, kFof_, kFofS_, kFofD_, kFofI_, forGoF_n, forGoF_c, kFofC_, loopF_nx, loopF_ct, loopF_bk, loopF_rt, wS_brk, wS_cnt, wS_pass, wipe_n, wipe_c, rest_n, rest_c, getD_z, getD_s, ownB_n, ownB_c, isOwn_, kIo_n, kIo_v, kIo_o, sb_seq, sb_enum, sb_rng, sb_zip, rb_v, rb_t, rb_b, line_ok, line_lt, List.getElem?_cons_zero, List.getElem?_cons_succ, List.getElem?_nil, List.set_cons_zero, List.set_cons_succ, List.take_succ_cons, List.take_zero, List.map_cons, List.map_nil, List.length_cons, List.length_nil, List.length_map, List.nodup_cons, List.nodup_nil, List.not_mem_nil, List.mem_cons, List.mem_singleton, not_false_eq_true, true_and, and_true, and_self, ite_true, ite_false, if_true, if_false, Bool.false_eq_true, Bool.true_eq_false, Bool.not_true, Bool.not_false, Bool.not_not, Bool.and_true, Bool.true_and, Bool.and_false, Bool.false_and, Bool.or_true, Bool.or_false, bne_iff_ne, beq_iff_eq, decide_eq_true_eq, decide_eq_false_iff_not, Bool.not_eq_true', Bool.not_eq_eq_eq_not, List.contains_nil, List.contains_cons, List.cons_append, List.nil_append, List.append_nil, List.replicate_succ, List.replicate_zero, ne_eq, reduceCtorEq, Nat.lt_irrefl, Option.some.injEq, Int.ofNat_eq_natCast, Nat.zero_lt_succ, Nat.add_lt_add_iff_right, Nat.zero_add, decide_true, decide_false, Bool.decide_eq_true, false_or, or_false, Nat.reduceLeDiff, Nat.reduceAdd, Nat.reduceSub, Nat.reduceLT, Nat.reduceEqDiff, Nat.reduceBEq, Nat.reduceMul, Nat.reducePow, Int.reduceLT, Int.reduceLE, Int.reduceNeg, Int.reduceAdd, Int.reduceSub, Int.reduceMul, Int.reducePow, Int.reduceToNat, Int.reduceEq, Int.reduceBEq, Int.reduceNe, reduceIte, decide_not, eq_self, not_true_eq_false, imp_self, Bool.and_self, Bool.or_self, Bool.and_eq_true, Bool.or_eq_true, Bool.or_eq_false_iff, Bool.true_or, Bool.false_or, Bool.false_bne, Bool.bne_false, Bool.bne_true] at $h:ident)
/-! NH: the law k52 from its start -/
theorem srt_str {xs : List Str} {Q : RK} (hl : xs.length ≤ 1000) (q : ∀ ys : List Str, ys.Perm xs → ys.Pairwise (fun a b => ¬ sg b < sg a) → Q (.tmp (.lst (ys.map D.str)))) : srtW (.lst (xs.map D.str)) Q := .inr ⟨xs, strsD_map, hl, q⟩
theorem jl_nat {ts : List Tie} {r k : List Str} {j : Nat} {t : Tie} {ls : List D} (et : ts[j]? = some t) : jl ts r k (.int (j : Nat) :: ls) = if ∀ x ∈ t.1, x ∈ k then jl ts r (k ++ t.2) ls else false :=
  jl_in (i := (j : Nat)) (by omega) (by simpa using et)
/-- the k-th column of the row -/
def rg (rs : List Str) (k : Int) : Str := (atI rs k).getD ⟨#[]⟩
def tk (rs : List Str) (k : Int) : Tie := ([rg rs k], [rg rs (k + 1)])
theorem jl_row {ts : List Tie} {r0 r1 r2 r3 r4 r5 : Str} {i0 i1 i2 i3 i4 : Nat} (nd : [r0, r1, r2, r3, r4, r5].Nodup) (e0 : ts[i0]? = some ([r0], [r1])) (e1 : ts[i1]? = some ([r1], [r2])) (e2 : ts[i2]? = some ([r2], [r3])) (e3 : ts[i3]? = some ([r3], [r4])) (e4 : ts[i4]? = some ([r4], [r5])) :
    (∀ (ls : List D), ls = [.int i0, .int i1, .int i2, .int i3, .int i4] → jl ts [r5] [r0] (ls ++ ls) = true ∧ ∀ i : Nat, i < 5 → jl ts [r5] [r0] (cutD ls none (some (i : Int)) ++ cutD ls (some ((i : Int) + 1)) none) = false) := by
  rintro ls rfl
  simp only [List.nodup_cons, List.mem_cons, List.not_mem_nil, or_false, not_or, List.nodup_nil, and_true, not_false_eq_true] at nd
  obtain ⟨⟨a1, a2, a3, a4, a5⟩, ⟨b2, b3, b4, b5⟩, ⟨c3, c4, c5⟩, ⟨d4, d5⟩, f5⟩ := nd
  refine ⟨?_, fun i hi => ?_⟩
  · simp [jl_nat e0, jl_nat e1, jl_nat e2, jl_nat e3, jl_nat e4, jl_nil]
  · match i, hi with
    | 0, _ =>
      show jl ts [r5] [r0] [.int i1, .int i2, .int i3, .int i4] = false
      simp [jl_nat e0, jl_nat e1, jl_nat e2, jl_nat e3, jl_nat e4, jl_nil, Ne.symm a1]
    | 1, _ =>
      show jl ts [r5] [r0] [.int i0, .int i2, .int i3, .int i4] = false
      simp [jl_nat e0, jl_nat e1, jl_nat e2, jl_nat e3, jl_nat e4, jl_nil, Ne.symm a2, Ne.symm b2]
    | 2, _ =>
      show jl ts [r5] [r0] [.int i0, .int i1, .int i3, .int i4] = false
      simp [jl_nat e0, jl_nat e1, jl_nat e2, jl_nat e3, jl_nat e4, jl_nil, Ne.symm a3, Ne.symm b3, Ne.symm c3]
    | 3, _ =>
      show jl ts [r5] [r0] [.int i0, .int i1, .int i2, .int i4] = false
      simp [jl_nat e0, jl_nat e1, jl_nat e2, jl_nat e3, jl_nat e4, jl_nil, Ne.symm a4, Ne.symm b4, Ne.symm c4, Ne.symm d4]
    | 4, _ =>
      show jl ts [r5] [r0] [.int i0, .int i1, .int i2, .int i3] = false
      simp [jl_nat e0, jl_nat e1, jl_nat e2, jl_nat e3, jl_nat e4, jl_nil, Ne.symm a5, Ne.symm b5, Ne.symm c5, Ne.symm d5, Ne.symm f5]
theorem law52_ok {C : WC} {a j s sh f y c ca w d : Nat} (hA : AskedOk C a) (hj : JudgeOk C j) (hs : ∀ b : Bool, SameOk C s (.bl b)) (hsh : ShufOk C sh) (hf : FewOk C f) (hy : AnyOk C y) (hc : LcloOk C c) (hca : CaseOk C ca) (hw : WordsOk C w) (hd : DrawsOk C d) {ns : List Int} {Q : Rf → List Sl → Prop} (hn : ns.length ≤ 400) (q : ∀ o, Q (.val (.bl true)) o) :
    wSs C (b_lawk52 a j s sh f y c ca w d) [.val (.frl (ns.map .int)), .none, .none, .none, .none, .none, .none, .none, .none, .none, .none, .none, .none, .none, .none] (topE 1 Q) := by
  unfold b_lawk52
  simp!
  refine hd _ _ _ hn (by decide) (by decide) fun ds1 a1 a2 => ?_
  simp!
  refine hw _ _ _ (by decide) (by decide) fun ds2 ws a3 wl nd wz => ?_
  have wl : ws.length = 6 := wl
  simp!
  rw [rng0_map]
  refine fof_ind (I := fun us fr => ∃ ds : List Int, fr = [.val (.frl (ns.map .int)), .own false (lI ds), .val (lS ws), .none, .none, .none, .none, .none, .none, .none, .none, .none, .none, .none, .none]) ?_ ?_ ⟨ds2, rfl⟩
  · rintro x r fr ⟨ds, rfl⟩ ih
    simp!
    refine hca _ _ _ nd (by omega) fun ds3 cs ts b1 b2 c1 c2 c3 c4 => ?_
    simp! [ix0, ix1]
    refine hf _ _ _ _ (by decide) (by decide) fun ds4 lf b3 b4 d1 d2 d3 => ?_
    have d3' : lf.length ≤ 2 := by omega
    simp! [ix0, ix1]
    refine hc _ _ _ c3 (by omega) fun ks b5 b6 k1 k2 k3 k4 => ?_
    simp! [ix0, ix1]
    refine hf _ _ _ _ (by decide) (by decide) fun ds5 lf2 b7 b8 f1 f2 f3 => ?_
    have f3' : lf2.length ≤ 2 := by omega
    simp! [ix0, ix1]
    refine hy _ _ _ (by omega) fun ds6 an b9 g1 => ?_
    have gl := g1.length_le
    simp! [ix0, ix1]
    refine hA _ _ _ (lf, ks) _ c3 (by simp; omega) k3 fun ds7 => ?_
    simp! [ix0, ix1]
    refine hA _ _ _ (lf, lf2) _ c3 (by simp; omega) (by simp; omega) fun ds8 => ?_
    simp! [ix0, ix1]
    refine hA _ _ _ (an, cs) _ c3 (by simp; omega) (by simp; omega) fun ds9 => ?_
    simp!
    exact ih _ ⟨ds9, rfl⟩
  · rintro fr ⟨ds, rfl⟩
    simp!
    refine srt_str (by omega) fun cs p1 p2 => ?_
    simp!
    have cl : cs.length = 6 := by rw [p1.length_eq, wl]
    refine hsh _ _ _ _ (.inr rfl) (by simp; omega) fun ds3 ys b1 p3 => ?_
    obtain ⟨rs, rfl, p4⟩ := perm_map p3
    have rl : rs.length = 6 := by rw [p4.length_eq, cl]
    have rn : rs.Nodup := p4.nodup_iff.mpr (p1.nodup_iff.mpr nd)
    simp!
    refine hsh _ _ _ _ (.inl rfl) (by simp) fun ds4 zs b2 p5 => ?_
    have e5 : (List.range 5).map (fun (i : Nat) => D.int ((0 : Int) + i)) = ([0, 1, 2, 3, 4] : List Int).map D.int := rfl
    rw [e5] at p5
    obtain ⟨os, rfl, p6⟩ := perm_map p5
    simp!
    have om : ∀ k, k ∈ os ↔ k ∈ ([0, 1, 2, 3, 4] : List Int) := fun k => p6.mem_iff
    have ol : os.length = 5 := p6.length_eq
    match rs, rl with
    | [r0, r1, r2, r3, r4, r5], _ =>
    simp!
    refine ⟨le_line (by omega), lc_map D.int (fun k => tieD (tk [r0, r1, r2, r3, r4, r5] k)) rfl (fun k hk K hK => ?_) ?_⟩
    · have hk := (om k).mp hk
      simp only [List.mem_cons, List.not_mem_nil, or_false] at hk
      have h5 : ∀ xs : List D, atI (xs) 0 = xs[0]? := fun xs => by unfold atI ixN; cases xs <;> simp
      rcases hk with rfl | rfl | rfl | rfl | rfl
      · have e1 : atI [D.str r0, .str r1, .str r2, .str r3, .str r4, .str r5] 0 = some (.str r0) := rfl
        have e2 : atI [D.str r0, .str r1, .str r2, .str r3, .str r4, .str r5] 1 = some (.str r1) := rfl
        simp! [e1, e2]
        exact hK _ rfl
      · have e1 : atI [D.str r0, .str r1, .str r2, .str r3, .str r4, .str r5] 1 = some (.str r1) := rfl
        have e2 : atI [D.str r0, .str r1, .str r2, .str r3, .str r4, .str r5] 2 = some (.str r2) := rfl
        simp! [e1, e2]
        exact hK _ rfl
      · have e1 : atI [D.str r0, .str r1, .str r2, .str r3, .str r4, .str r5] 2 = some (.str r2) := rfl
        have e2 : atI [D.str r0, .str r1, .str r2, .str r3, .str r4, .str r5] 3 = some (.str r3) := rfl
        simp! [e1, e2]
        exact hK _ rfl
      · have e1 : atI [D.str r0, .str r1, .str r2, .str r3, .str r4, .str r5] 3 = some (.str r3) := rfl
        have e2 : atI [D.str r0, .str r1, .str r2, .str r3, .str r4, .str r5] 4 = some (.str r4) := rfl
        simp! [e1, e2]
        exact hK _ rfl
      · have e1 : atI [D.str r0, .str r1, .str r2, .str r3, .str r4, .str r5] 4 = some (.str r4) := rfl
        have e2 : atI [D.str r0, .str r1, .str r2, .str r3, .str r4, .str r5] 5 = some (.str r5) := rfl
        simp! [e1, e2]
        exact hK _ rfl
    · have ets : os.map (fun k => tieD (tk [r0, r1, r2, r3, r4, r5] k)) = (os.map (tk [r0, r1, r2, r3, r4, r5])).map tieD := by rw [List.map_map]; rfl
      rw [ets]
      generalize hts : os.map (tk [r0, r1, r2, r3, r4, r5]) = ts
      have tok : TOk ts := by
        subst hts
        refine ⟨by simp; omega, fun t ht => ?_, fun t ht => ?_⟩
        · obtain ⟨k, _, rfl⟩ := List.mem_map.mp ht
          exact ⟨by simp [tk], by simp [tk]⟩
        · obtain ⟨k, _, rfl⟩ := List.mem_map.mp ht
          simp [tk]
      have hix : ∀ k : Int, k ∈ ([0, 1, 2, 3, 4] : List Int) → ts[os.idxOf k]? = some (tk [r0, r1, r2, r3, r4, r5] k) := fun k hk => by
        subst hts
        rw [List.getElem?_map, (idx_int ((om k).mpr hk)).1]
        rfl
      simp!
      have erg : rngD 0 5 = ([0, 1, 2, 3, 4] : List Int).map D.int := rfl
      rw [erg]
      refine ⟨le_line (by simp), lc_map D.int (fun k => D.int (os.idxOf k : Nat)) rfl (fun k hk K hK => ?_) ?_⟩
      · simp! [indexLW, intsD_map]
        exact ⟨os, rfl, (om k).mpr hk, hK _ rfl⟩
      have e0 : atI [D.str r0, .str r1, .str r2, .str r3, .str r4, .str r5] 0 = some (.str r0) := rfl
      have e5 : atI [D.str r0, .str r1, .str r2, .str r3, .str r4, .str r5] 5 = some (.str r5) := rfl
      obtain ⟨j1, j2⟩ := jl_row rn (hix 0 (by decide)) (hix 1 (by decide)) (hix 2 (by decide)) (hix 3 (by decide)) (hix 4 (by decide)) _ rfl
      have ldm : ∀ d ∈ [D.int (os.idxOf 0 : Nat), .int (os.idxOf 1 : Nat), .int (os.idxOf 2 : Nat), .int (os.idxOf 3 : Nat), .int (os.idxOf 4 : Nat)], LD d := by
        intro d hd
        simp only [List.mem_cons, List.not_mem_nil, or_false] at hd
        rcases hd with rfl | rfl | rfl | rfl | rfl <;> exact ld_int
      generalize hL : [D.int (os.idxOf 0 : Nat), .int (os.idxOf 1 : Nat), .int (os.idxOf 2 : Nat), .int (os.idxOf 3 : Nat), .int (os.idxOf 4 : Nat)] = L at j1 j2 ldm
      have lL : L.length = 5 := by rw [← hL]; rfl
      simp! [hL, e0, e5]
      refine ⟨line5 (by omega), ?_⟩
      refine hj _ _ ([r0], [r5]) _ _ tok (by simp) (by simp) (fun d hd => (List.mem_append.mp hd).elim (ldm d) (ldm d)) ?_
      rw [j1]
      simp!
      refine hs _ _ fun s1 s2 => ?_
      simp!
      rw [rng0_map]
      refine fof_ind (I := fun us fr => fr = [.val (.frl (ns.map .int)), .own false (lI ds4), .val (lS ws), .none, .none, .none, .none, .none, .val (.tup [.tup [.str r0], .tup [.str r5]]), .val (tS cs), .val (.lst [.str r0, .str r1, .str r2, .str r3, .str r4, .str r5]), .val (.lst (os.map .int)), .val (tiesD ts), .val (.tup L), .none] ∧ ∀ i ∈ us, i < 5) ?_ ?_ ⟨rfl, fun i hi => List.mem_range.mp hi⟩
      · rintro i r fr ⟨rfl, hi⟩ ih
        have i5 := hi i List.mem_cons_self
        simp!
        have g1 := cutD_le (xs := L) (lo := none) (hi := some (i : Int))
        have g2 := cutD_le (xs := L) (lo := some ((i : Int) + 1)) (hi := none)
        refine ⟨line5 (by omega), ?_⟩
        refine hj _ _ ([r0], [r5]) _ _ tok (by simp) (by simp) (fun d hd => (List.mem_append.mp hd).elim (fun z => ldm d (mem_cutD z)) fun z => ldm d (mem_cutD z)) ?_
        rw [j2 i i5]
        simp!
        refine hs _ _ fun s1 s2 => ?_
        simp!
        exact ih _ ⟨rfl, fun k hk => hi k (List.mem_cons_of_mem _ hk)⟩
      · rintro fr ⟨rfl, _⟩
        simp!
        refine hA _ _ _ ([r0], [r5]) _ tok (by simp) (by simp) fun ds7 => ?_
        simp!
        exact q _
end QL
set_option maxHeartbeats 0
namespace K52
open PySem L2 QL
def topS (i : Nat) : Stmt := PySem.Challenge.pw_broughtacross_k52_judge_of_lines_of_ties.main.body.getD i (.Pass ⟨0, 0, 0, 0⟩)
def b_is_within : CSs := (.cons (.ret (.op .all (.cons (.lc [2] (.n 2) (.seq (.v 0)) .none (.op .isin (.cons (.v 2) (.cons (.v 1) .nil)))) .nil))) .nil)
def d_is_within : TD := ⟨"is_within", topS 1, ["part", "columns"], ["part", "columns", "column"], b_is_within⟩
def b_united : CSs := (.cons (.ret (.op .toTup (.cons (.ssc [2] (.n 2) (.seq (.op .add (.cons (.v 0) (.cons (.v 1) .nil)))) .none (.v 2)) .nil))) .nil)
def d_united : TD := ⟨"united", topS 2, ["columns", "other"], ["columns", "other", "column"], b_united⟩
def d_common : TD := ⟨"common", topS 3, ["columns", "other"], ["columns", "other", "column"], QL.b_common⟩
def b_without : CSs := (.cons (.ret (.op .toTup (.cons (.lc [2] (.n 2) (.seq (.v 0)) (.some (.op .notin (.cons (.v 2) (.cons (.v 1) .nil)))) (.v 2)) .nil))) .nil)
def d_without : TD := ⟨"without", topS 4, ["columns", "other"], ["columns", "other", "column"], b_without⟩
def d_next_gain : TD := ⟨"next_gain", topS 6, ["ties", "known"], ["ties", "known", "index", "left", "right", "gained"], QL.b_next_gain 0 3⟩
def d_gains : TD := ⟨"gains", topS 7, ["ties", "left"], ["ties", "left", "known", "found", "gain"], QL.b_gains 4 1⟩
def b_closure : CSs := (.cons (.set (.n 3) (.v 2)) (.cons (.for (.t [4, 5]) (.seq (.call 5 (.cons (.fz (.v 1)) (.cons (.fz (.v 2)) .nil)))) (.cons (.set (.n 3) (.call 1 (.cons (.fz (.v 3)) (.cons (.fz (.v 5)) .nil)))) .nil)) (.cons (.ret (.v 3)) .nil)))
def d_closure : TD := ⟨"closure", topS 8, ["columns", "ties", "left"], ["columns", "ties", "left", "found", "_", "gained"], b_closure⟩
def b_follows_from : CSs := (.cons (.set (.t [3, 4]) (.v 2)) (.cons (.ret (.call 0 (.cons (.fz (.v 4)) (.cons (.fz (.call 6 (.cons (.fz (.v 0)) (.cons (.fz (.v 1)) (.cons (.fz (.v 3)) .nil))))) .nil)))) .nil))
def d_follows_from : TD := ⟨"follows_from", topS 9, ["columns", "ties", "tie"], ["columns", "ties", "tie", "left", "right"], b_follows_from⟩
def d_lines_for : TD := ⟨"lines_for", topS 10, ["columns", "ties", "tie"], ["columns", "ties", "tie", "left", "right", "needed", "lines", "index", "gained"], QL.b_lines_for 5 2 3 1 7⟩
def d_judge_lines : TD := ⟨"judge_lines", topS 11, ["columns", "ties", "tie", "lines"], ["columns", "ties", "tie", "lines", "known", "right", "line", "start", "end"], QL.b_judge_lines 0 1⟩
def b__law_draws : CSs := (.cons (.setLc 2 (.lc [8] (.n 8) (.seq (.v 0)) .none (.op .toInt (.cons (.v 8) .nil)))) (.cons (.ite (.op .eq (.cons (.op .len (.cons (.v 2) .nil)) (.cons (.k (.int 0)) .nil))) (.cons (.ex (.mt .append (.v 2) (.cons (.fz (.k (.int 0))) .nil))) .nil) .nil) (.cons (.set (.n 3) (.op .toList (.cons (.v 2) .nil))) (.cons (.set (.n 4) (.lst .nil)) (.cons (.for (.n 5) (.rng1 (.v 1)) (.cons (.set (.n 6) (.op .mod (.cons (.v 5) (.cons (.op .len (.cons (.v 2) .nil)) .nil)))) (.cons (.ite (.and (.op .ge (.cons (.op .ix (.cons (.v 2) (.cons (.v 6) .nil))) (.cons (.op .pow (.cons (.k (.int 10)) (.cons (.k (.int 18)) .nil))) .nil))) (.op .gt (.cons (.op .ix (.cons (.v 3) (.cons (.v 6) .nil))) (.cons (.k (.int 0)) .nil)))) (.cons (.ex (.mt .append (.v 4) (.cons (.fz (.op .mod (.cons (.op .toInt (.cons (.op .ix (.cons (.v 3) (.cons (.v 6) .nil))) .nil)) (.cons (.k (.int 1000)) .nil)))) .nil))) (.cons (.setIx (.v 3) (.v 6) (.op .fdiv (.cons (.op .ix (.cons (.v 3) (.cons (.v 6) .nil))) (.cons (.k (.int 1000)) .nil)))) .nil)) (.cons (.set (.n 7) (.op .mod (.cons (.op .toInt (.cons (.op .add (.cons (.op .add (.cons (.op .mul (.cons (.op .ix (.cons (.v 2) (.cons (.v 6) .nil))) (.cons (.k (.int 48271)) .nil))) (.cons (.op .mul (.cons (.v 5) (.cons (.k (.int 69621)) .nil))) .nil))) (.cons (.k (.int 11)) .nil))) .nil)) (.cons (.k (.int 2147483647)) .nil)))) (.cons (.ex (.mt .append (.v 4) (.cons (.fz (.op .mod (.cons (.op .toInt (.cons (.op .add (.cons (.op .add (.cons (.op .mul (.cons (.v 7) (.cons (.v 7) .nil))) (.cons (.op .mul (.cons (.k (.int 3)) (.cons (.v 7) .nil))) .nil))) (.cons (.v 5) .nil))) .nil)) (.cons (.k (.int 1000003)) .nil)))) .nil))) .nil))) .nil))) (.cons (.ex (.mt .reverse (.v 4) .nil)) (.cons (.ret (.v 4)) .nil)))))))
def d__law_draws : TD := ⟨"_law_draws", topS 13, ["script", "many"], ["script", "many", "cells", "left", "draws", "k", "place", "mixed", "cell"], b__law_draws⟩
def b__law_take : CSs := (.cons (.ite (.op .eq (.cons (.op .len (.cons (.v 0) .nil)) (.cons (.k (.int 0)) .nil))) (.cons (.ret (.k (.int 0))) .nil) .nil) (.cons (.ret (.op .mod (.cons (.op .toInt (.cons (.mt .pop (.v 0) .nil) .nil)) (.cons (.v 1) .nil)))) .nil))
def d__law_take : TD := ⟨"_law_take", topS 14, ["draws", "many"], ["draws", "many"], b__law_take⟩
def b__law_pick : CSs := (.cons (.ret (.op .ix (.cons (.v 1) (.cons (.call 11 (.cons (.v 0) (.cons (.fz (.op .len (.cons (.v 1) .nil))) .nil))) .nil)))) .nil)
def d__law_pick : TD := ⟨"_law_pick", topS 15, ["draws", "row"], ["draws", "row"], b__law_pick⟩
def b__law_same : CSs := (.cons (.ite (.op (.isi ["tuple", "list"] false) (.cons (.v 1) .nil)) (.cons (.ite (.or (.op .ne (.cons (.op (.isi ["tuple"] true) (.cons (.v 0) .nil)) (.cons (.op (.isi ["tuple"] true) (.cons (.v 1) .nil)) .nil))) (.op .ne (.cons (.op (.isi ["list"] true) (.cons (.v 0) .nil)) (.cons (.op (.isi ["list"] true) (.cons (.v 1) .nil)) .nil)))) (.cons (.ret (.k (.bl false))) .nil) .nil) (.cons (.ite (.op .ne (.cons (.op .len (.cons (.v 0) .nil)) (.cons (.op .len (.cons (.v 1) .nil)) .nil))) (.cons (.ret (.k (.bl false))) .nil) .nil) (.cons (.ret (.op .notin (.cons (.k (.bl false)) (.cons (.lc [2] (.n 2) (.rng1 (.op .len (.cons (.v 1) .nil))) .none (.call 13 (.cons (.fz (.op .ix (.cons (.v 0) (.cons (.v 2) .nil)))) (.cons (.fz (.op .ix (.cons (.v 1) (.cons (.v 2) .nil)))) .nil)))) .nil)))) .nil))) .nil) (.cons (.ite (.or (.op .ne (.cons (.op (.isi ["bool"] true) (.cons (.v 0) .nil)) (.cons (.op (.isi ["bool"] true) (.cons (.v 1) .nil)) .nil))) (.op .ne (.cons (.op (.isi ["int"] true) (.cons (.v 0) .nil)) (.cons (.op (.isi ["int"] true) (.cons (.v 1) .nil)) .nil)))) (.cons (.ret (.k (.bl false))) .nil) .nil) (.cons (.ite (.or (.op .ne (.cons (.op (.isi ["str"] true) (.cons (.v 0) .nil)) (.cons (.op (.isi ["str"] true) (.cons (.v 1) .nil)) .nil))) (.op .ne (.cons (.op .isN (.cons (.v 0) .nil)) (.cons (.op .isN (.cons (.v 1) .nil)) .nil)))) (.cons (.ret (.k (.bl false))) .nil) .nil) (.cons (.ret (.op .eq (.cons (.v 0) (.cons (.v 1) .nil)))) .nil))))
def d__law_same : TD := ⟨"_law_same", topS 16, ["actual", "due"], ["actual", "due", "k"], b__law_same⟩
def b__law_words : CSs := (.cons (.set (.n 2) (.lst .nil)) (.cons (.for (.n 3) (.rng1 (.v 1)) (.cons (.set (.n 4) (.op .add (.cons (.k (.int 1)) (.cons (.call 11 (.cons (.v 0) (.cons (.fz (.k (.int 3))) .nil))) .nil)))) (.cons (.ite (.op .eq (.cons (.call 11 (.cons (.v 0) (.cons (.fz (.k (.int 9))) .nil))) (.cons (.k (.int 0)) .nil))) (.cons (.set (.n 4) (.op .add (.cons (.op .add (.cons (.v 4) (.cons (.k (.int 3)) .nil))) (.cons (.call 11 (.cons (.v 0) (.cons (.fz (.k (.int 20))) .nil))) .nil)))) .nil) .nil) (.cons (.set (.n 5) (.mt .join (.k (.str "")) (.cons (.lc [6] (.n 6) (.rng1 (.v 4)) .none (.op .ix (.cons (.k (.str "abcdefghijklmnopqrstuvwxyz")) (.cons (.call 11 (.cons (.v 0) (.cons (.fz (.k (.int 26))) .nil))) .nil)))) .nil))) (.cons (.ite (.or (.op .isin (.cons (.v 5) (.cons (.v 2) .nil))) (.op .eq (.cons (.v 5) (.cons (.k (.str "true")) .nil)))) (.cons (.set (.n 5) (.op .mul (.cons (.k (.str "z")) (.cons (.op .add (.cons (.k (.int 1)) (.cons (.op .max1 (.cons (.op .add (.cons (.lst (.cons (.k (.int 4)) .nil)) (.cons (.lc [7] (.n 7) (.seq (.v 2)) .none (.op .len (.cons (.v 7) .nil))) .nil))) .nil)) .nil))) .nil)))) .nil) .nil) (.cons (.ex (.mt .append (.v 2) (.cons (.fz (.v 5)) .nil))) .nil)))))) (.cons (.ret (.v 2)) .nil)))
def d__law_words : TD := ⟨"_law_words", topS 17, ["draws", "many"], ["draws", "many", "words", "k", "size", "word", "j", "other"], b__law_words⟩
def b__law_shuffled : CSs := (.cons (.set (.n 2) (.lst .nil)) (.cons (.for (.n 3) (.seq (.v 1)) (.cons (.ex (.mt .insert (.v 2) (.cons (.fz (.call 11 (.cons (.v 0) (.cons (.fz (.op .add (.cons (.op .len (.cons (.v 2) .nil)) (.cons (.k (.int 1)) .nil)))) .nil)))) (.cons (.fz (.v 3)) .nil)))) .nil)) (.cons (.ret (.v 2)) .nil)))
def d__law_shuffled : TD := ⟨"_law_shuffled", topS 18, ["draws", "things"], ["draws", "things", "found", "thing"], b__law_shuffled⟩
def b__law_subset : CSs := (.cons (.ret (.op .toTup (.cons (.lc [2] (.n 2) (.rng1 (.op .len (.cons (.v 0) .nil))) (.some (.op .eq (.cons (.op .mod (.cons (.op .toInt (.cons (.op .shr (.cons (.v 1) (.cons (.v 2) .nil))) .nil)) (.cons (.k (.int 2)) .nil))) (.cons (.k (.int 1)) .nil)))) (.op .ix (.cons (.v 0) (.cons (.v 2) .nil)))) .nil))) .nil)
def d__law_subset : TD := ⟨"_law_subset", topS 19, ["things", "mask"], ["things", "mask", "k"], b__law_subset⟩
def b__law_within : CSs := (.cons (.ret (.op .notin (.cons (.k (.bl false)) (.cons (.lc [2] (.n 2) (.seq (.v 0)) .none (.op .isin (.cons (.v 2) (.cons (.v 1) .nil)))) .nil)))) .nil)
def d__law_within : TD := ⟨"_law_within", topS 20, ["part", "whole"], ["part", "whole", "thing"], b__law_within⟩
def b__law_few : CSs := (.cons (.set (.n 3) (.lst .nil)) (.cons (.for (.n 4) (.rng1 (.call 11 (.cons (.v 0) (.cons (.fz (.op .add (.cons (.v 2) (.cons (.k (.int 1)) .nil)))) .nil)))) (.cons (.ite (.op .gt (.cons (.op .len (.cons (.v 1) .nil)) (.cons (.k (.int 0)) .nil))) (.cons (.ex (.mt .append (.v 3) (.cons (.fz (.call 12 (.cons (.v 0) (.cons (.fz (.v 1)) .nil)))) .nil))) .nil) .nil) .nil)) (.cons (.ret (.op .toTup (.cons (.op .sortSet (.cons (.v 3) .nil)) .nil))) .nil)))
def d__law_few : TD := ⟨"_law_few", topS 21, ["draws", "columns", "most"], ["draws", "columns", "most", "found", "k"], b__law_few⟩
def b__law_any_set : CSs := (.cons (.ret (.call 16 (.cons (.fz (.v 1)) (.cons (.fz (.call 11 (.cons (.v 0) (.cons (.fz (.op .shl (.cons (.k (.int 1)) (.cons (.op .len (.cons (.v 1) .nil)) .nil)))) .nil)))) .nil)))) .nil)
def d__law_any_set : TD := ⟨"_law_any_set", topS 22, ["draws", "columns"], ["draws", "columns"], b__law_any_set⟩
def b__law_ties : CSs := (.cons (.ite (.op .eq (.cons (.call 11 (.cons (.v 0) (.cons (.fz (.k (.int 4))) .nil))) (.cons (.k (.int 0)) .nil))) (.cons (.set (.n 3) (.call 15 (.cons (.v 0) (.cons (.fz (.v 1)) .nil)))) (.cons (.setLc 4 (.lc [6] (.n 6) (.rng1 (.op .sub (.cons (.op .len (.cons (.v 3) .nil)) (.cons (.k (.int 1)) .nil)))) .none (.tup (.cons (.tup (.cons (.op .ix (.cons (.v 3) (.cons (.v 6) .nil))) .nil)) (.cons (.tup (.cons (.op .ix (.cons (.v 3) (.cons (.op .add (.cons (.v 6) (.cons (.k (.int 1)) .nil))) .nil))) .nil)) .nil))))) (.cons (.ret (.op .toTup (.cons (.op .slHi (.cons (.call 15 (.cons (.v 0) (.cons (.fz (.v 4)) .nil))) (.cons (.v 2) .nil))) .nil))) .nil))) .nil) (.cons (.set (.n 5) (.lst .nil)) (.cons (.for (.n 6) (.rng1 (.call 11 (.cons (.v 0) (.cons (.fz (.op .add (.cons (.v 2) (.cons (.k (.int 1)) .nil)))) .nil)))) (.cons (.ite (.op .eq (.cons (.call 11 (.cons (.v 0) (.cons (.fz (.k (.int 5))) .nil))) (.cons (.k (.int 0)) .nil))) (.cons (.ex (.mt .append (.v 5) (.cons (.fz (.tup (.cons (.call 19 (.cons (.v 0) (.cons (.fz (.v 1)) .nil))) (.cons (.call 19 (.cons (.v 0) (.cons (.fz (.v 1)) .nil))) .nil)))) .nil))) .nil) (.cons (.ex (.mt .append (.v 5) (.cons (.fz (.tup (.cons (.call 18 (.cons (.v 0) (.cons (.fz (.v 1)) (.cons (.fz (.k (.int 2))) .nil)))) (.cons (.call 18 (.cons (.v 0) (.cons (.fz (.v 1)) (.cons (.fz (.k (.int 2))) .nil)))) .nil)))) .nil))) .nil)) .nil)) (.cons (.ret (.op .toTup (.cons (.v 5) .nil))) .nil))))
def d__law_ties : TD := ⟨"_law_ties", topS 23, ["draws", "columns", "most"], ["draws", "columns", "most", "row", "chain", "ties", "k"], b__law_ties⟩
def b__law_closure : CSs := (.cons (.set (.n 2) (.op .toList (.cons (.v 1) .nil))) (.cons (.for (.n 3) (.rng1 (.op .add (.cons (.op .len (.cons (.v 0) .nil)) (.cons (.k (.int 1)) .nil)))) (.cons (.set (.n 4) (.op .len (.cons (.v 2) .nil))) (.cons (.for (.n 5) (.seq (.v 0)) (.cons (.ite (.call 17 (.cons (.fz (.op .ix (.cons (.v 5) (.cons (.k (.int 0)) .nil)))) (.cons (.fz (.v 2)) .nil))) (.cons (.set (.n 2) (.op .add (.cons (.v 2) (.cons (.lc [6] (.n 6) (.seq (.op .ix (.cons (.v 5) (.cons (.k (.int 1)) .nil)))) (.some (.op .notin (.cons (.v 6) (.cons (.v 2) .nil)))) (.v 6)) .nil)))) .nil) .nil) .nil)) (.cons (.ite (.op .eq (.cons (.op .len (.cons (.v 2) .nil)) (.cons (.v 4) .nil))) (.cons .brk .nil) .nil) .nil)))) (.cons (.ret (.op .toTup (.cons (.op .sorted (.cons (.v 2) .nil)) .nil))) .nil)))
def d__law_closure : TD := ⟨"_law_closure", topS 24, ["ties", "left"], ["ties", "left", "known", "turn", "before", "tie", "column"], b__law_closure⟩
def b__law_follows : CSs := (.cons (.ret (.call 17 (.cons (.fz (.op .ix (.cons (.v 1) (.cons (.k (.int 1)) .nil)))) (.cons (.fz (.call 21 (.cons (.fz (.v 0)) (.cons (.fz (.op .ix (.cons (.v 1) (.cons (.k (.int 0)) .nil)))) .nil)))) .nil)))) .nil)
def d__law_follows : TD := ⟨"_law_follows", topS 25, ["ties", "tie"], ["ties", "tie"], b__law_follows⟩
def b__law_case : CSs := (.cons (.set (.n 3) (.op .toTup (.cons (.op .sorted (.cons (.op .slHi (.cons (.v 1) (.cons (.op .add (.cons (.v 2) (.cons (.call 11 (.cons (.v 0) (.cons (.fz (.op .sub (.cons (.k (.int 7)) (.cons (.v 2) .nil)))) .nil))) .nil))) .nil))) .nil)) .nil))) (.cons (.ret (.lst (.cons (.v 3) (.cons (.call 20 (.cons (.v 0) (.cons (.fz (.v 3)) (.cons (.fz (.k (.int 8))) .nil)))) .nil)))) .nil))
def d__law_case : TD := ⟨"_law_case", topS 26, ["draws", "words", "least"], ["draws", "words", "least", "columns"], b__law_case⟩
def d__law_are_lines : TD := ⟨"_law_are_lines", topS 27, ["ties", "tie", "lines"], ["ties", "tie", "lines", "known", "line"], QL.b_law_are_lines 17⟩
def d__law_own_lines : TD := ⟨"_law_own_lines", topS 28, ["draws", "ties", "tie"], ["draws", "ties", "tie", "known", "left", "lines", "turn", "fitting", "line"], QL.b_law_own_lines 17 15⟩
def d__law_papers : TD := ⟨"_law_papers", topS 29, ["draws", "ties", "lines"], ["draws", "ties", "lines", "papers", "strange", "place"], QL.b_law_papers 11 12⟩
def d__law_is_asked_right : TD := ⟨"_law_is_asked_right", topS 30, ["draws", "columns", "ties", "tie"], ["draws", "columns", "ties", "tie", "told", "papers", "paper"], QL.b_law_is_asked_right 9 24 13 26 25 22 8⟩
def d_law : TD := ⟨"law", topS 31, ["script"], ["script", "draws", "words", "k", "case", "left", "closed", "asked", "tie", "columns", "row", "order", "ties", "lines", "place"], QL.b_lawk52 27 9 13 15 18 19 21 23 14 10⟩
def T : List TD := [d_is_within, d_united, d_common, d_without, d_next_gain, d_gains, d_closure, d_follows_from, d_lines_for, d_judge_lines, d__law_draws, d__law_take, d__law_pick, d__law_same, d__law_words, d__law_shuffled, d__law_subset, d__law_within, d__law_few, d__law_any_set, d__law_ties, d__law_closure, d__law_follows, d__law_case, d__law_are_lines, d__law_own_lines, d__law_papers, d__law_is_asked_right, d_law]
def bl : List Str := ["all", "bool", "enumerate", "int", "isinstance", "len", "list", "max", "range", "set", "sorted", "str", "tuple"]
theorem tab_chk : T.all (tdOk (T.map TD.x) bl) = true := by decide +kernel
theorem tab_bnd : AllT BndAt T := ⟨fun _ _ _ _ _ _ us hl => match us, hl with | [_, _], _ => rfl, fun _ _ _ _ _ _ us hl => match us, hl with | [_, _], _ => rfl, fun _ _ _ _ _ _ us hl => match us, hl with | [_, _], _ => rfl, fun _ _ _ _ _ _ us hl => match us, hl with | [_, _], _ => rfl, fun _ _ _ _ _ _ us hl => match us, hl with | [_, _], _ => rfl, fun _ _ _ _ _ _ us hl => match us, hl with | [_, _], _ => rfl, fun _ _ _ _ _ _ us hl => match us, hl with | [_, _, _], _ => rfl, fun _ _ _ _ _ _ us hl => match us, hl with | [_, _, _], _ => rfl, fun _ _ _ _ _ _ us hl => match us, hl with | [_, _, _], _ => rfl, fun _ _ _ _ _ _ us hl => match us, hl with | [_, _, _, _], _ => rfl, fun _ _ _ _ _ _ us hl => match us, hl with | [_, _], _ => rfl, fun _ _ _ _ _ _ us hl => match us, hl with | [_, _], _ => rfl, fun _ _ _ _ _ _ us hl => match us, hl with | [_, _], _ => rfl, fun _ _ _ _ _ _ us hl => match us, hl with | [_, _], _ => rfl, fun _ _ _ _ _ _ us hl => match us, hl with | [_, _], _ => rfl, fun _ _ _ _ _ _ us hl => match us, hl with | [_, _], _ => rfl, fun _ _ _ _ _ _ us hl => match us, hl with | [_, _], _ => rfl, fun _ _ _ _ _ _ us hl => match us, hl with | [_, _], _ => rfl, fun _ _ _ _ _ _ us hl => match us, hl with | [_, _, _], _ => rfl, fun _ _ _ _ _ _ us hl => match us, hl with | [_, _], _ => rfl, fun _ _ _ _ _ _ us hl => match us, hl with | [_, _, _], _ => rfl, fun _ _ _ _ _ _ us hl => match us, hl with | [_, _], _ => rfl, fun _ _ _ _ _ _ us hl => match us, hl with | [_, _], _ => rfl, fun _ _ _ _ _ _ us hl => match us, hl with | [_, _, _], _ => rfl, fun _ _ _ _ _ _ us hl => match us, hl with | [_, _, _], _ => rfl, fun _ _ _ _ _ _ us hl => match us, hl with | [_, _, _], _ => rfl, fun _ _ _ _ _ _ us hl => match us, hl with | [_, _, _], _ => rfl, fun _ _ _ _ _ _ us hl => match us, hl with | [_, _, _, _], _ => rfl, fun _ _ _ _ _ _ us hl => match us, hl with | [_], _ => rfl, trivial⟩
end K52
set_option maxHeartbeats 1500000
/-! U52: the table's calls -/
namespace K52
open PySem L2 QL
abbrev CW (n : Nat) : WC := callW (T.map TD.fn) n
theorem c11 (n : Nat) : TakeOk (CW (n + 1)) 11 := fun b ds m Q h q => callW_td (d := d__law_take) rfl (take_ok h q)
theorem c12 (n : Nat) : PickOk (CW (n + 2)) 12 := fun b ds d xs Q h1 h2 q => callW_td (d := d__law_pick) rfl (pick_ok (c11 n) h1 h2 q)
theorem c0 (n : Nat) : SubOk (CW (n + 1)) 0 := fun p c Q h q => callW_td (d := d_is_within) rfl (sub_ok h q)
theorem c1 (n : Nat) : UniOk (CW (n + 1)) 1 := fun a b Q h q => callW_td (d := d_united) rfl (uni_ok h q)
theorem c2 (n : Nat) : ComOk (CW (n + 1)) 2 := fun p c Q h q => callW_new (d := d_common) rfl rfl (com_ok h q)
theorem c3 (n : Nat) : WtoOk (CW (n + 1)) 3 := fun p c Q h q => callW_td (d := d_without) rfl (wto_ok h q)
theorem c17 (n : Nat) : WitOk (CW (n + 1)) 17 := fun p c d Q h1 h2 q => callW_td (d := d__law_within) rfl (wit_ok h1 h2 q)
theorem c4 (n : Nat) : NxOk (CW (n + 2)) 4 := fun ts k Q h q0 q1 => callW_new (d := d_next_gain) rfl rfl (nx_ok (c3 n) (c0 n) h q0 q1)
theorem c5 (n : Nat) : GnOk (CW (n + 3)) 5 := fun ts l Q h1 h2 q => callW_new (d := d_gains) rfl rfl (gn_ok (c4 n) (c1 (n + 1)) h1 h2 q)
theorem c6 (n : Nat) : CloOk (CW (n + 4)) 6 := fun d ts l Q h1 h2 q => callW_td (d := d_closure) rfl (clo_ok (gn_weak (c5 n)) (c1 (n + 2)) h1 h2 q)
theorem c7 (n : Nat) : FolOk (CW (n + 5)) 7 := fun d ts t Q h1 h2 h3 q => callW_td (d := d_follows_from) rfl (fol_ok (c0 (n + 3)) (c6 n) h1 h2 h3 q)
theorem c8 (n : Nat) : LinesOk (CW (n + 6)) 8 := fun d ts t Q h1 h2 h3 q0 q1 => callW_new (d := d_lines_for) rfl rfl (lines_ok (c5 (n + 2)) (c2 (n + 4)) (c3 (n + 4)) (c1 (n + 4)) (c7 n) h1 h2 h3 q0 q1)
theorem c9 (n : Nat) : JudgeOk (CW (n + 2)) 9 := fun d ts t ls Q h1 h2 h3 h4 q => callW_new (d := d_judge_lines) rfl rfl (judge_ok (c0 n) (c1 n) h1 h2 h3 h4 q)
theorem c10 (n : Nat) : DrawsOk (CW (n + 1)) 10 := fun ns m Q h1 h2 h3 q => callW_td (d := d__law_draws) rfl (draws_ok h1 h2 h3 q)
theorem c14 (n : Nat) : WordsOk (CW (n + 2)) 14 := fun ds m Q h1 h2 q => callW_td (d := d__law_words) rfl (words_ok (c11 n) h1 h2 q)
theorem c15 (n : Nat) : ShufOk (CW (n + 2)) 15 := fun ds d xs Q h1 h2 q => callW_td (d := d__law_shuffled) rfl (shuf_ok (c11 n) h1 h2 q)
theorem c16 (n : Nat) : SubsOk (CW (n + 1)) 16 := fun xs m Q h1 q => callW_td (d := d__law_subset) rfl (subs_ok h1 q)
theorem c18 (n : Nat) : FewOk (CW (n + 3)) 18 := fun ds cs m Q h1 h2 q => callW_td (d := d__law_few) rfl (few_ok (c11 (n + 1)) (c12 n) h1 h2 q)
theorem c19 (n : Nat) : AnyOk (CW (n + 2)) 19 := fun ds cs Q h1 q => callW_td (d := d__law_any_set) rfl (any_ok (c16 n) (c11 n) h1 q)
theorem c20 (n : Nat) : TiesOk (CW (n + 4)) 20 := fun ds cs Q h1 h2 q => callW_td (d := d__law_ties) rfl (ties_ok (c11 (n + 2)) (c15 (n + 1)) (c18 n) (c19 (n + 1)) h1 h2 q)
theorem c21 (n : Nat) : LcloOk (CW (n + 2)) 21 := fun ts l Q h1 h2 q => callW_td (d := d__law_closure) rfl (lclo_ok (c17 n) h1 h2 q)
theorem c22 (n : Nat) : LfolOk (CW (n + 3)) 22 := fun ts t Q h1 h2 h3 q => callW_td (d := d__law_follows) rfl (lfol_ok (c17 (n + 1)) (c21 n) h1 h2 h3 q)
theorem c23 (n : Nat) : CaseOk (CW (n + 5)) 23 := fun ds ws Q h1 h2 q => callW_td (d := d__law_case) rfl (case_ok (c11 (n + 3)) (c20 n) h1 h2 q)
theorem c13b (n : Nat) (x : Bool) : SameOk (CW (n + 1)) 13 (.bl x) := fun Q q => callW_td (d := d__law_same) rfl (same_bl q)
theorem c24 (n : Nat) : AreOk (CW (n + 2)) 24 := fun ts t ls Q h1 h2 h3 h4 h5 q => callW_new (d := d__law_are_lines) rfl rfl (are_ok (c17 n) h1 h2 h3 h4 h5 q)
theorem c25 (n : Nat) : OwnOk (CW (n + 3)) 25 := fun ds ts t Q h1 h2 q => callW_new (d := d__law_own_lines) rfl rfl (own_ok (c17 (n + 1)) (c15 n) h1 h2 q)
theorem c26 (n : Nat) : PapOk (CW (n + 3)) 26 := fun ds ts is Q h1 h2 h3 q => callW_new (d := d__law_papers) rfl rfl (pap_ok (c11 (n + 1)) (c12 n) h1 h2 h3 q)
theorem c27 (n : Nat) : AskedOk (CW (n + 7)) 27 := fun ds d ts t Q h1 h2 h3 q => callW_new (d := d__law_is_asked_right) rfl rfl (asked_ok (c9 (n + 4)) (c24 (n + 4)) (c13b (n + 5)) (c26 (n + 3)) (c25 (n + 3)) (c22 (n + 3)) (c8 n) h1 h2 h3 q)
theorem main (ns : List Int) (h : ns.length ≤ 63) : callW (T.map TD.fn) 20 28 [.val (.frl (ns.map D.int))] fun r _ => r = .val (.bl true) :=
  callW_new (d := d_law) rfl rfl (law52_ok (c27 12) (c9 17) (c13b 18) (c15 17) (c18 16) (c19 17) (c21 17) (c23 14) (c14 17) (c10 18) (by omega) fun o => rfl)
end K52
open PySem
open PySem.W
open PyProof.Rows
set_option maxHeartbeats 0 in
theorem PySem.Challenge.cw_broughtacross_k52_judge_of_lines_of_ties_holds : PySem.Challenge.rw_broughtacross_k52_judge_of_lines_of_ties.Holds := by
  w_on; o_law
  k_head
  (case hw => w_witness2)
  k_fill
  refine QL.law_walk (l := PySem.Challenge.rw_broughtacross_k52_judge_of_lines_of_ties) (m := 63) (n := 20) (i := 28) (T := K52.T) (td := K52.d_law) (bl := K52.bl) rfl (by decide) rfl ⟨rfl, by decide, by decide⟩ (fun w h Y => PySem.W.kIn_of Y) rfl rfl rfl K52.tab_chk K52.tab_bnd (fun ns h1 _ => K52.main ns h1) ?hd ?hs
  case hd =>
    intro w
    repeat' apply And.intro
    all_goals first | exact trivial | skip
    all_goals (refine' QL.dIn_mk ?qa ?ql ?qc ?qk; (case qa => k_is); (case ql => k_is); (case qc => k_is); (case qk => k_is))
  case hs =>
    intro w
    repeat' apply And.intro
    all_goals first | exact trivial | (show nsIn _ _ _ = _; k_is)
