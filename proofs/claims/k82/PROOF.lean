import PyProof.Rows.All
import Wide.All
import OpenK.AllK
import Wide.FinOn
import HandS.ForMost
import HandS.Exc
import HandS.ExcOwn
import HandS.RaiseMore
import HandS.TupAny
import HandS.TupMul
import HandS.TupLe
import HandS.Style
import HandS.Deep
import HandS.IsInst
import HandS.Flow
import HandS.CallSlots
import HandS.Zip
import KE.GoesEnum
import KE.GoesMore
import HandS.WordsExc
import HandS.Defaults
import HandS.HeadHook4
import HandS.HeadWalk
import HandS.HeadEnd
import KE.KStateDown
import HandS.Head0
import HandS.Head1
import HandS.Head2
import PySem.Challenge.RW_pagesread_k82_whole_shrinks_of_histories
set_option Elab.async false
set_option linter.all false
set_option maxRecDepth 100000
set_option maxHeartbeats 4000000
/-! Mp1: plain values, how they stand in the abstract heap. -/
namespace Mp
open PySem PySem.Spec PyProof.Rows L2

abbrev P := PyData

/-- a plain value: data, a def of the text, a tuple of defs, a dict, a set -/
inductive D where
  | d (x : P)
  | fn (i : Nat)
  | fns (is : List Nat)
  /-- the law's own argument: a list that is read -/
  | fz (xs : List Int)
  | dct (ks vs : List P)

/-- what a slot of a def holds -/
inductive Sl where
  | un
  | val (x : D)
  | own (lent : Bool) (x : D)

abbrev Env := List Sl
abbrev Wd := Addr → Prop

mutual
/-- data stands at v: its lists are none of W -/
inductive Rp (K : PySem.W.Frag) (W : Wd) (H : Hp) : P → V → Prop
  | non : Rp K W H .none .non
  | bl (b : Bool) : Rp K W H (.bool b) (.bl b)
  | int (i : Int) : Rp K W H (.int i) (.int i)
  | str (x : Str) : PyData.strOk x = true → x.length ≤ sizeLine → Rp K W H (.str x) (.str x)
  | lst {a : Addr} {xs : List V} {ds : List P} : H a = some (.lst xs) → ¬ W a → xs.length ≤ sizeLine → RpA K W H ds xs → Rp K W H (.list ds) (.ref a)
  | tup {a : Addr} {xs : List V} {ds : List P} : SqT K H a xs → xs.length ≤ sizeLine → RpA K W H ds xs → Rp K W H (.tuple ds) (.ref a)
inductive RpA (K : PySem.W.Frag) (W : Wd) (H : Hp) : List P → List V → Prop
  | nil : RpA K W H [] []
  | cons {v : V} {vs : List V} {d : P} {ds : List P} : Rp K W H d v → RpA K W H ds vs → RpA K W H (d :: ds) (v :: vs)
end

section
variable {K : PySem.W.Frag} {W W' : Wd} {H H' : Hp}

theorem RpA.length : ∀ {ds : List P} {vs : List V}, RpA K W H ds vs → ds.length = vs.length
  | _, _, .nil => rfl
  | _, _, .cons _ t => by simp [RpA.length t]

theorem RpA.get : ∀ {ds : List P} {vs : List V} {i : Nat} {d : P}, RpA K W H ds vs → ds[i]? = some d → ∃ v, vs[i]? = some v ∧ Rp K W H d v
  | _, _, _, _, .nil, e => by simp at e
  | _, _, 0, _, .cons r _, e => by simp at e; subst e; exact ⟨_, rfl, r⟩
  | _, _, i + 1, d, .cons _ t, e => by
    obtain ⟨v, h1, h2⟩ := RpA.get (i := i) (d := d) t (by simpa using e)
    exact ⟨v, by simpa using h1, h2⟩
theorem RpA.getV : ∀ {ds : List P} {vs : List V} {i : Nat} {v : V}, RpA K W H ds vs → vs[i]? = some v → ∃ d, ds[i]? = some d ∧ Rp K W H d v
  | _, _, _, _, .nil, e => by simp at e
  | _, _, 0, _, .cons r _, e => by simp at e; subst e; exact ⟨_, rfl, r⟩
  | _, _, i + 1, d, .cons _ t, e => by
    obtain ⟨v, h1, h2⟩ := RpA.getV (i := i) (v := d) t (by simpa using e)
    exact ⟨v, by simpa using h1, h2⟩
theorem RpA.append : ∀ {ds es : List P} {vs ws : List V}, RpA K W H ds vs → RpA K W H es ws → RpA K W H (ds ++ es) (vs ++ ws)
  | _, _, _, _, .nil, s => s
  | _, _, _, _, .cons r t, s => .cons r (RpA.append t s)
theorem RpA.take : ∀ {ds : List P} {vs : List V} (n : Nat), RpA K W H ds vs → RpA K W H (ds.take n) (vs.take n)
  | _, _, 0, _ => .nil
  | _, _, _ + 1, .nil => .nil
  | _, _, n + 1, .cons r t => .cons r (RpA.take n t)
theorem RpA.drop : ∀ {ds : List P} {vs : List V} (n : Nat), RpA K W H ds vs → RpA K W H (ds.drop n) (vs.drop n)
  | _, _, 0, r => r
  | _, _, _ + 1, .nil => .nil
  | _, _, n + 1, .cons _ t => RpA.drop n t
theorem RpA.set {d : P} {v : V} (r : Rp K W H d v) : ∀ {ds : List P} {vs : List V} (i : Nat), RpA K W H ds vs → RpA K W H (ds.set i d) (vs.set i v)
  | _, _, _, .nil => .nil
  | _, _, 0, .cons _ t => .cons r t
  | _, _, i + 1, .cons q t => .cons q (RpA.set r i t)
theorem RpA.reverse : ∀ {ds : List P} {vs : List V}, RpA K W H ds vs → RpA K W H ds.reverse vs.reverse
  | _, _, .nil => .nil
  | _, _, .cons r t => by rw [List.reverse_cons, List.reverse_cons]; exact (RpA.reverse t).append (.cons r .nil)
theorem RpA.rep {ds : List P} {vs : List V} (h : RpA K W H ds vs) : ∀ k : Nat, RpA K W H (List.replicate k ds).flatten (List.replicate k vs).flatten
  | 0 => .nil
  | k + 1 => by rw [List.replicate_succ, List.replicate_succ, List.flatten_cons, List.flatten_cons]; exact h.append (RpA.rep h k)

mutual
/-- it stays where what it leans on stays -/
theorem Rp.pers (hk : ∀ a u, H a = some u → ¬ W a → H' a = some u) (ht : ∀ a xs, Rd H a (.tup xs) → Rd H' a (.tup xs)) (hw : ∀ a u, H a = some u → ¬ W a → ¬ W' a) : ∀ (d : P) (v : V), Rp K W H d v → Rp K W' H' d v
  | .none, _, h => by cases h; exact .non
  | .bool b, _, h => by cases h; exact .bl b
  | .int b, _, h => by cases h; exact .int b
  | .str b, _, h => by cases h with | str _ h1 h2 => exact .str b h1 h2
  | .list ds, _, h => by
    cases h with
    | lst h1 h2 h3 h4 => exact .lst (hk _ _ h1 h2) (hw _ _ h1 h2) h3 (RpA.pers hk ht hw ds _ h4)
  | .tuple ds, _, h => by
    cases h with
    | tup h1 h2 h3 =>
      refine .tup ?_ h2 (RpA.pers hk ht hw ds _ h3)
      rcases h1 with h1 | h1
      · exact .inl (ht _ _ h1)
      · exact .inr h1
  | .dict _, _, h => by cases h
theorem RpA.pers (hk : ∀ a u, H a = some u → ¬ W a → H' a = some u) (ht : ∀ a xs, Rd H a (.tup xs) → Rd H' a (.tup xs)) (hw : ∀ a u, H a = some u → ¬ W a → ¬ W' a) : ∀ (ds : List P) (vs : List V), RpA K W H ds vs → RpA K W' H' ds vs
  | [], _, h => by cases h; exact .nil
  | d :: ds, _, h => by
    cases h with
    | cons h1 h2 => exact .cons (Rp.pers hk ht hw d _ h1) (RpA.pers hk ht hw ds _ h2)
end
mutual
theorem Rp.dp : ∀ (d : P) (v : V), Rp K W H d v → Dp K H v d
  | .none, _, h => by cases h; exact .non
  | .bool b, _, h => by cases h; exact .bl b
  | .int b, _, h => by cases h; exact .int b
  | .str b, _, h => by cases h; exact .str b
  | .list ds, _, h => by
    cases h with
    | lst h1 h2 h3 h4 => exact .lst (.inl (.inl h1)) (RpA.dp ds _ h4)
  | .tuple ds, _, h => by
    cases h with
    | tup h1 h2 h3 => exact .tup h1 (RpA.dp ds _ h3)
  | .dict _, _, h => by cases h
theorem RpA.dp : ∀ (ds : List P) (vs : List V), RpA K W H ds vs → DpAll K H vs ds
  | [], _, h => by cases h; exact .nil
  | d :: ds, _, h => by
    cases h with
    | cons h1 h2 => exact .cons (Rp.dp d _ h1) (RpA.dp ds _ h2)
end
mutual
theorem Rp.can : ∀ (d : P) (v : V), Rp K W H d v → d.canLay0 = true
  | .none, _, h => rfl
  | .bool b, _, h => rfl
  | .int b, _, h => rfl
  | .str b, _, h => by cases h with | str _ h1 h2 => exact h1
  | .list ds, _, h => by
    cases h with
    | lst h1 h2 h3 h4 => exact RpA.can ds _ h4
  | .tuple ds, _, h => by
    cases h with
    | tup h1 h2 h3 => exact RpA.can ds _ h3
  | .dict _, _, h => by cases h
theorem RpA.can : ∀ (ds : List P) (vs : List V), RpA K W H ds vs → PyData.canLayAll0 ds = true
  | [], _, h => rfl
  | d :: ds, _, h => by
    cases h with
    | cons h1 h2 =>
      show (d.canLay0 && PyData.canLayAll0 ds) = true
      rw [Rp.can d _ h1, RpA.can ds _ h2]; rfl
end
end

/-! ### values of D, contents of slots, slots -/
/-- where the defs of the text stand -/
abbrev FA := Nat → Addr

def dctK : P → Option Key
  | .int i => some (.inl i)
  | .str x => some (.inr x)
  | _ => none

/-- a dict at a: keys ints and texts -/
def RpDct (K : PySem.W.Frag) (W : Wd) (H : Hp) (ks vs : List P) (a : Addr) : Prop :=
  ∃ kvs : List (Key × V), Rd H a (.dK kvs) ∧ kvs.length ≤ sizeLine ∧ ks.map dctK = kvs.map (fun p => some p.1) ∧ RpA K W H vs (kvs.map (·.2))

/-- a list that nobody writes: the caller's, or the module's -/
def FzL (K : PySem.W.Frag) (W : Wd) (H : Hp) (a : Addr) (xs : List V) : Prop :=
  (∃ o, H a = some (.frz o (.lst xs))) ∨ (H a = some (.lst xs) ∧ ¬ W a) ∨ ∃ (o : Obj) (its : Array Value) (n : Nat), K.lookup a = some o ∧ o.cls = .type "list" ∧ o.dict = none ∧ o.data = .seq its n ∧ its.size ≤ sizeLine ∧ Vals xs its.toList
theorem FzL.sq {K : PySem.W.Frag} {W : Wd} {H : Hp} {a : Addr} {xs : List V} (h : FzL K W H a xs) : SqL K H a xs := h.elim (fun ⟨o, e⟩ => .inl (.inr ⟨o, e⟩)) fun h => h.elim (fun ⟨e, _⟩ => .inl (.inl e)) .inr
theorem FzL.of {K : PySem.W.Frag} {H : Hp} {a : Addr} {xs : List V} (h : SqL K H a xs) : FzL K (fun _ => False) H a xs := h.elim (fun h => h.elim (fun e => .inr (.inl ⟨e, id⟩)) fun ⟨o, e⟩ => .inl ⟨o, e⟩) fun h => .inr (.inr h)
def RpD (K : PySem.W.Frag) (fa : FA) (W : Wd) (H : Hp) : D → V → Prop
  | .d x, v => Rp K W H x v
  | .fn i, v => v = V.ref (fa i)
  | .fns is, v => ∃ a, v = V.ref a ∧ SqT K H a (is.map fun i => V.ref (fa i)) ∧ is.length ≤ sizeLine
  | .fz xs, v => xs.length ≤ 16777216 ∧ ∃ a, v = V.ref a ∧ FzL K W H a (xs.map V.int)
  | .dct ks vs, v => ∃ a, v = V.ref a ∧ ¬ W a ∧ RpDct K W H ks vs a
/-- the content of an owned object at a (it is written: tracked itself) -/
def RpO (K : PySem.W.Frag) (W : Wd) (H : Hp) : D → Addr → Prop
  | .d (.list ds), a => ∃ xs, H a = some (.lst xs) ∧ xs.length ≤ sizeLine ∧ RpA K W H ds xs
  | .dct ks vs, a => ∃ kvs : List (Key × V), H a = some (.dK kvs) ∧ kvs.length ≤ sizeLine ∧ ks.map dctK = kvs.map (fun p => some p.1) ∧ RpA K W H vs (kvs.map (·.2))
  | _, _ => False

/-- the owned addresses of a def's slots -/
def Ow (ρ : Env) (σ : L2.St) (a : Addr) : Prop := ∃ (i : Nat) (l : Bool) (x : D), ρ[i]? = some (Sl.own l x) ∧ σ[i]? = some (some (V.ref a))

structure RS (K : PySem.W.Frag) (fa : FA) (W : Wd) (ρ : Env) (σ : L2.St) (H : Hp) : Prop where
  len : ρ.length = σ.length
  val : ∀ (i : Nat) (x : D), ρ[i]? = some (Sl.val x) → ∃ v, σ[i]? = some (some v) ∧ RpD K fa W H x v
  own : ∀ (i : Nat) (l : Bool) (x : D), ρ[i]? = some (Sl.own l x) → ∃ a, σ[i]? = some (some (V.ref a)) ∧ W a ∧ RpO K W H x a
  inj : ∀ (i j : Nat) (l l' : Bool) (x x' : D) (a : Addr), ρ[i]? = some (Sl.own l x) → ρ[j]? = some (Sl.own l' x') → σ[i]? = some (some (V.ref a)) → σ[j]? = some (some (V.ref a)) → i = j
  dom : ∀ a, W a → ∃ o, H a = some o ∧ Mut (some o)

/-- from state to state along statements -/
structure Fx (K : PySem.W.Frag) (fa : FA) (W : Wd) (ρ : Env) (σ : L2.St) (H : Hp) (W' : Wd) (ρ' : Env) (σ' : L2.St) (H' : Hp) : Prop where
  rs : RS K fa W' ρ' σ' H'
  fr : ∀ a o, H a = some o → ¬ Ow ρ σ a → H' a = some o
  ow : ∀ a, Ow ρ' σ' a → Ow ρ σ a ∨ H a = none
  wg : ∀ a, W' a → W a ∨ H a = none
  wk : ∀ a, W a → W' a ∨ Ow ρ σ a
  dm : ∀ a, H a ≠ none → H' a ≠ none
  ln : ∀ (i : Nat) (x : D), ρ[i]? = some (Sl.own true x) → ∃ x', ρ'[i]? = some (Sl.own true x') ∧ σ'[i]? = σ[i]?

/-- along an expression: the slots stand where they stood, what is owned is owned -/
structure FxE (K : PySem.W.Frag) (fa : FA) (W : Wd) (ρ : Env) (σ : L2.St) (H : Hp) (W' : Wd) (ρ' : Env) (H' : Hp) : Prop where
  rs : RS K fa W' ρ' σ H'
  fr : ∀ a o, H a = some o → ¬ Ow ρ σ a → H' a = some o
  sh : ∀ (i : Nat) (l : Bool) (x : D), ρ[i]? = some (Sl.own l x) → ∃ x', ρ'[i]? = some (Sl.own l x')
  hs : ∀ (i : Nat) (l : Bool) (x : D), ρ'[i]? = some (Sl.own l x) → ∃ x', ρ[i]? = some (Sl.own l x')
  wm : ∀ a, W a → W' a
  wg : ∀ a, W' a → W a ∨ H a = none
  dm : ∀ a, H a ≠ none → H' a ≠ none

section
variable {K : PySem.W.Frag} {fa : FA} {W W' W1 W2 : Wd} {ρ ρ' ρ1 ρ2 : Env} {σ σ' σ1 σ2 : L2.St} {H H' H1 H2 : Hp}

theorem RS.owW (h : RS K fa W ρ σ H) {a : Addr} (o : Ow ρ σ a) : W a := by
  obtain ⟨i, l, x, e1, e2⟩ := o
  obtain ⟨b, e3, w, _⟩ := h.own i l x e1
  rw [e2] at e3; cases e3; exact w
theorem FxE.owIff (f : FxE K fa W ρ σ H W' ρ' H') (a : Addr) : Ow ρ' σ a ↔ Ow ρ σ a := by
  constructor
  · rintro ⟨i, l, x, e1, e2⟩
    obtain ⟨x', e⟩ := f.hs i l x e1
    exact ⟨i, l, x', e, e2⟩
  · rintro ⟨i, l, x, e1, e2⟩
    obtain ⟨x', e⟩ := f.sh i l x e1
    exact ⟨i, l, x', e, e2⟩
theorem FxE.refl (h : RS K fa W ρ σ H) : FxE K fa W ρ σ H W ρ H :=
  ⟨h, fun _ _ e _ => e, fun _ _ x e => ⟨x, e⟩, fun _ _ x e => ⟨x, e⟩, fun _ w => w, fun _ w => .inl w, fun _ e => e⟩
theorem FxE.trans (f : FxE K fa W ρ σ H W1 ρ1 H1) (g : FxE K fa W1 ρ1 σ H1 W2 ρ2 H2) : FxE K fa W ρ σ H W2 ρ2 H2 where
  rs := g.rs
  fr := fun a o e n => g.fr a o (f.fr a o e n) fun z => n ((f.owIff a).mp z)
  sh := fun i l x e => by
    obtain ⟨x', e'⟩ := f.sh i l x e
    exact g.sh i l x' e'
  hs := fun i l x e => by
    obtain ⟨x', e'⟩ := g.hs i l x e
    exact f.hs i l x' e'
  wm := fun a w => g.wm a (f.wm a w)
  wg := fun a w => by
    rcases g.wg a w with z | z
    · exact f.wg a z
    · refine .inr ?_
      cases q : H a with
      | none => rfl
      | some o => exact absurd z (f.dm a (by rw [q]; exact Option.some_ne_none o))
  dm := fun a e => g.dm a (f.dm a e)
theorem FxE.fx (f : FxE K fa W ρ σ H W' ρ' H') : Fx K fa W ρ σ H W' ρ' σ H' :=
  ⟨f.rs, f.fr, fun a z => .inl ((f.owIff a).mp z), f.wg, fun a w => .inl (f.wm a w), f.dm, fun i x e => by
    obtain ⟨x', e'⟩ := f.sh i true x e
    exact ⟨x', e', rfl⟩⟩
theorem Fx.refl (h : RS K fa W ρ σ H) : Fx K fa W ρ σ H W ρ σ H := (FxE.refl h).fx
theorem Fx.trans (h : RS K fa W ρ σ H) (f : Fx K fa W ρ σ H W1 ρ1 σ1 H1) (g : Fx K fa W1 ρ1 σ1 H1 W2 ρ2 σ2 H2) : Fx K fa W ρ σ H W2 ρ2 σ2 H2 := by
  have nn : ∀ a, H1 a = none → H a = none := fun a z => by
    cases q : H a with
    | none => rfl
    | some o => exact absurd z (f.dm a (by rw [q]; exact Option.some_ne_none o))
  refine ⟨g.rs, fun a o e n => ?_, fun a z => ?_, fun a w => ?_, fun a w => ?_, fun a e => g.dm a (f.dm a e), fun i x e => ?_⟩
  · refine g.fr a o (f.fr a o e n) fun z => ?_
    rcases f.ow a z with y | y
    · exact n y
    · rw [e] at y; cases y
  · rcases g.ow a z with y | y
    · exact f.ow a y
    · exact .inr (nn a y)
  · rcases g.wg a w with z | z
    · exact f.wg a z
    · exact .inr (nn a z)
  · rcases f.wk a w with z | z
    · rcases g.wk a z with y | y
      · exact .inl y
      · rcases f.ow a y with u | u
        · exact .inr u
        · obtain ⟨o, e, _⟩ := h.dom a w
          rw [e] at u; cases u
    · exact .inr z
  · obtain ⟨x', e1, e2⟩ := f.ln i x e
    obtain ⟨x'', e3, e4⟩ := g.ln i x' e1
    exact ⟨x'', e3, e4.trans e2⟩

/-! persistence -/
/-- what must stay for a value to stay -/
structure Stay (W : Wd) (H : Hp) (W' : Wd) (H' : Hp) : Prop where
  k : ∀ a o, H a = some o → ¬ W a → H' a = some o
  w : ∀ a, W' a → W a ∨ H a = none
  m : ∀ a, W a → ∃ o, H a = some o ∧ Mut (some o)

theorem Stay.rd (s : Stay W H W' H') {a : Addr} {u : HO} (r : Rd H a u) (n : ¬ W a) : Rd H' a u := by
  rcases r with r | ⟨o, r⟩
  · exact .inl (s.k _ _ r n)
  · exact .inr ⟨o, s.k _ _ r n⟩
theorem Stay.nw (s : Stay W H W' H') {a : Addr} {u : HO} (r : Rd H a u) (n : ¬ W a) : ¬ W' a := fun z => by
  rcases s.w a z with y | y
  · exact n y
  · rcases r with r | ⟨o, r⟩ <;> (rw [r] at y; cases y)
theorem Stay.tup (s : Stay W H W' H') {a : Addr} {xs : List V} (r : Rd H a (.tup xs)) : Rd H' a (.tup xs) := by
  have n : ¬ W a := fun z => by
    obtain ⟨o, e, mu⟩ := s.m a z
    rcases r with r | ⟨o', r⟩
    · rw [r] at e; cases e; exact mu
    · rw [r] at e; cases e; exact mu
  exact s.rd r n
theorem Stay.sqT (s : Stay W H W' H') {a : Addr} {xs : List V} (r : SqT K H a xs) : SqT K H' a xs := by
  rcases r with r | r
  · exact .inl (s.tup r)
  · exact .inr r
theorem Stay.rp (s : Stay W H W' H') {d : P} {v : V} (r : Rp K W H d v) : Rp K W' H' d v :=
  Rp.pers (fun _ _ r n => s.k _ _ r n) (fun _ _ r => s.tup r) (fun _ _ r n => s.nw (.inl r) n) d v r
theorem Stay.rpA (s : Stay W H W' H') {d : List P} {v : List V} (r : RpA K W H d v) : RpA K W' H' d v :=
  RpA.pers (fun _ _ r n => s.k _ _ r n) (fun _ _ r => s.tup r) (fun _ _ r n => s.nw (.inl r) n) d v r
theorem Stay.rpD (s : Stay W H W' H') {x : D} {v : V} (r : RpD K fa W H x v) : RpD K fa W' H' x v := by
  cases x with
  | d x => exact s.rp r
  | fn i => exact r
  | fns is =>
    obtain ⟨a, e, h1, h2⟩ := r
    exact ⟨a, e, s.sqT h1, h2⟩
  | fz xs =>
    obtain ⟨z, a, e, h⟩ := r
    refine ⟨z, a, e, ?_⟩
    rcases h with ⟨o, h⟩ | ⟨h, n⟩ | h
    · refine .inl ⟨o, s.k _ _ h fun z => ?_⟩
      obtain ⟨o', e', mu⟩ := s.m a z
      rw [h] at e'; cases e'; exact mu
    · exact .inr (.inl ⟨s.k _ _ h n, s.nw (.inl h) n⟩)
    · exact .inr (.inr h)
  | dct ks vs =>
    obtain ⟨a, e, n, kvs, h1, h2, h3, h4⟩ := r
    exact ⟨a, e, s.nw h1 n, kvs, s.rd h1 n, h2, h3, s.rpA h4⟩
theorem Stay.rpO (s : Stay W H W' H') {x : D} {a : Addr} (r : RpO K W H x a) (h : ∀ o, H a = some o → H' a = some o) : RpO K W' H' x a := by
  cases x with
  | d x =>
    cases x with
    | list ds =>
      obtain ⟨xs, h1, h2, h3⟩ := r
      exact ⟨xs, h _ h1, h2, s.rpA h3⟩
    | _ => exact r.elim
  | dct ks vs =>
    obtain ⟨kvs, h1, h2, h3, h4⟩ := r
    exact ⟨kvs, h _ h1, h2, h3, s.rpA h4⟩
  | _ => exact r.elim
theorem Stay.refl (m : ∀ a, W a → ∃ o, H a = some o ∧ Mut (some o)) : Stay W H W H := ⟨fun _ _ e _ => e, fun _ w => .inl w, m⟩
theorem FxE.stay (h : RS K fa W ρ σ H) (f : FxE K fa W ρ σ H W' ρ' H') : Stay W H W' H' :=
  ⟨fun a o e n => f.fr a o e fun z => n (h.owW z), f.wg, h.dom⟩
theorem Fx.stay (h : RS K fa W ρ σ H) (f : Fx K fa W ρ σ H W' ρ' σ' H') : Stay W H W' H' :=
  ⟨fun a o e n => f.fr a o e fun z => n (h.owW z), f.wg, h.dom⟩
/-- a heap that only grows -/
theorem Stay.grow (m : ∀ a, W a → ∃ o, H a = some o ∧ Mut (some o)) (k : ∀ a o, H a = some o → H' a = some o) : Stay W H W H' := ⟨fun a o e _ => k a o e, fun _ w => .inl w, m⟩
theorem RS.grow (h : RS K fa W ρ σ H) (k : ∀ a o, H a = some o → H' a = some o) : RS K fa W ρ σ H' := by
  have s : Stay W H W H' := Stay.grow h.dom k
  refine ⟨h.len, fun i x e => ?_, fun i l x e => ?_, h.inj, fun a w => ?_⟩
  · obtain ⟨v, e1, r⟩ := h.val i x e
    exact ⟨v, e1, s.rpD r⟩
  · obtain ⟨a, e1, w, r⟩ := h.own i l x e
    exact ⟨a, e1, w, s.rpO r fun o => k a o⟩
  · obtain ⟨o, e, m⟩ := h.dom a w
    exact ⟨o, k a o e, m⟩
theorem FxE.grow (h : RS K fa W ρ σ H) (k : ∀ a o, H a = some o → H' a = some o) : FxE K fa W ρ σ H W ρ H' :=
  ⟨h.grow k, fun a o e _ => k a o e, fun _ _ x e => ⟨x, e⟩, fun _ _ x e => ⟨x, e⟩, fun _ w => w, fun _ w => .inl w, fun a e => by
    cases q : H a with
    | none => exact absurd q e
    | some o => rw [k a o q]; exact Option.some_ne_none o⟩
theorem RS.notW (h : RS K fa W ρ σ H) {a : Addr} (n : H a = none) : ¬ W a := fun w => by
  obtain ⟨o, e, _⟩ := h.dom a w
  rw [n] at e; cases e
theorem grow_upd {p : Addr} {o : HO} (n : H p = none) : ∀ a u, H a = some u → upd H p o a = some u := fun a u e => by
  rw [upd_ne (ne_of_none e n)]; exact e
end
end Mp

set_option maxRecDepth 100000
set_option maxHeartbeats 4000000
/-! Mp2: the little language, what its operations and programs are worth on plain values. -/
namespace Mp
open PySem L2

inductive RV where
  | sh (x : D) | fr (x : D) | br (j : Nat)
/-- an own exception: the class's number, its fields -/
structure Ex where
  c : Nat
  fs : List P
inductive R (α : Type) where
  | ok (a : α) (ρ : Env) | ex (e : Ex) (ρ : Env) | bad
@[simp] def R.bind {α β : Type} (r : R α) (k : α → Env → R β) : R β :=
  match r with
  | .ok a ρ => k a ρ
  | .ex e ρ => .ex e ρ
  | .bad => .bad
inductive Arg where
  | sh (x : D) | ln (x : D)
inductive FR where
  | ok (x : D) (fresh : Bool) (bk : List (Option D)) | ex (e : Ex) (bk : List (Option D)) | bad
abbrev Fs := Nat → List Arg → FR

/-! ### operations on data -/
def b2z (b : Bool) : Int := if b then 1 else 0
def addP : P → P → Option P
  | .int i, .int j => some (.int (i + j))
  | .str x, .str y => if x.length + y.length ≤ 16777216 then some (.str (x ++ y)) else none
  | .tuple xs, .tuple ys => if xs.length + ys.length ≤ 16777216 then some (.tuple (xs ++ ys)) else none
  | .list xs, .list ys => if xs.length + ys.length ≤ 16777216 then some (.list (xs ++ ys)) else none
  | _, _ => none
def subP : P → P → Option P
  | .int i, .int j => some (.int (i - j))
  | _, _ => none
def smallI (i : Int) : Bool := decide (-18446744073709551616 < i) && decide (i < 18446744073709551616)
def mulP : P → P → Option P
  | .int i, .int j => if smallI i || smallI j then some (.int (i * j)) else none
  | .list xs, .int k => if xs.length * k.toNat ≤ 16777216 ∧ -1000000 ≤ k ∧ k ≤ 1000000 then some (.list (List.replicate k.toNat xs).flatten) else none
  | .tuple xs, .int k => if xs ≠ [] ∧ 2 ≤ k ∧ k ≤ 1000 ∧ xs.length ≤ 1000 then some (.tuple (List.replicate k.toNat xs).flatten) else none
  | _, _ => none
def fdivP : P → P → Option P
  | .int i, .int j => if 0 < j ∧ j < 1073741824 then some (.int (i / j)) else none
  | _, _ => none
def modP : P → P → Option P
  | .int i, .int j => if 0 < j then some (.int (i % j)) else none
  | _, _ => none
def powP : P → P → Option P
  | .int i, .int j => if 0 ≤ j ∧ j ≤ 1000 ∧ -1000000 ≤ i ∧ i ≤ 1000000 then some (.int (i ^ j.toNat)) else none
  | _, _ => none
def negP : P → Option P
  | .int i => some (.int (-i))
  | _ => none
def eqP (a b : P) : Option Bool := if min a.depth b.depth ≤ 64 then some (PyData.eqv a b) else none
def isNoneP : P → Bool
  | .none => true
  | _ => false
def isP : P → P → Option Bool
  | x, .none => some (isNoneP x)
  | .bool a, .bool b => some (a == b)
  | _, _ => none
def intsP : List P → Option (List Int)
  | [] => some []
  | .int i :: r => (intsP r).map (i :: ·)
  | _ => none
def ltP : P → P → Option Bool
  | .int i, .int j => some (decide (i < j))
  | .tuple xs, .tuple ys => match intsP xs, intsP ys with
    | some a, some b => some (HT.lexLt a b)
    | _, _ => none
  | _, _ => none
def leP : P → P → Option Bool
  | .int i, .int j => some (decide (i ≤ j))
  | _, _ => none
def inP (x : P) : P → Option Bool
  | .list xs => if min (PyData.depthAll xs) x.depth ≤ 62 then some (xs.any fun y => PyData.eqv y x) else none
  | .tuple xs => if min (PyData.depthAll xs) x.depth ≤ 62 then some (xs.any fun y => PyData.eqv y x) else none
  | _ => none
inductive BOp where
  | add | sub | mul | fdiv | mod | pow
  deriving DecidableEq
def BOp.f : BOp → P → P → Option P
  | .add => addP | .sub => subP | .mul => mulP | .fdiv => fdivP | .mod => modP | .pow => powP
inductive COp where
  | eq | ne | lt | le | gt | ge | is | isnot | in_ | notin
  deriving DecidableEq
def COp.f : COp → P → P → Option Bool
  | .eq, a, b => eqP a b
  | .ne, a, b => (eqP a b).map (!·)
  | .lt, a, b => ltP a b
  | .gt, .int i, .int j => some (decide (j < i))
  | .gt, _, _ => none
  | .le, a, b => leP a b
  | .ge, a, b => leP b a
  | .is, a, b => isP a b
  | .isnot, a, b => (isP a b).map (!·)
  | .in_, a, b => inP a b
  | .notin, a, b => (inP a b).map (!·)
def truP : P → Bool
  | .none => false
  | .bool b => b
  | .int i => i != 0
  | .str x => (x.length : Int) != 0
  | .list xs => !xs.isEmpty
  | .tuple xs => !xs.isEmpty
  | .dict _ => false
def ixP : P → P → Option P
  | .list xs, .int i => atI xs i
  | .tuple xs, .int i => atI xs i
  | .str z, .int i => (atI z.cps.toList i).map fun c => .str ⟨#[c]⟩
  | _, _ => none
def cutL {α : Type} (xs : List α) (lo hi : Option Int) : List α := (xs.drop (HT.sIx xs.length 0 lo)).take (HT.sIx xs.length xs.length hi - HT.sIx xs.length 0 lo)
def cutP (lo hi : Option Int) : P → Option P
  | .list xs => some (.list (cutL xs lo hi))
  | .tuple xs => some (.tuple (cutL xs lo hi))
  | _ => none
def revP : P → Option P
  | .list xs => some (.list xs.reverse)
  | .tuple xs => some (.tuple xs.reverse)
  | _ => none
/-- built-in types, by which isinstance asks -/
inductive Ty where
  | int | bool | str | tuple | list
  deriving DecidableEq
def isiP : Ty → P → Bool
  | .int, .int _ => true
  | .int, .bool _ => true
  | .bool, .bool _ => true
  | .str, .str _ => true
  | .tuple, .tuple _ => true
  | .list, .list _ => true
  | _, _ => false
def lenP : P → Option P
  | .list xs => some (.int xs.length)
  | .tuple xs => some (.int xs.length)
  | .str x => some (.int x.length)
  | _ => none
def absP : P → Option P
  | .int i => some (.int (if i < 0 then -i else i))
  | _ => none
def intP : P → Option P
  | .int i => some (.int i)
  | .bool b => some (.int (b2z b))
  | _ => none
def boolsP : List P → Option (List Bool)
  | [] => some []
  | .bool b :: r => (boolsP r).map (b :: ·)
  | _ => none
def allP : P → Option P
  | .list xs => (boolsP xs).map fun bs => .bool (bs.all id)
  | _ => none
def anyP : P → Option P
  | .list xs => (boolsP xs).map fun bs => .bool (bs.any id)
  | _ => none
def tupP : P → Option P
  | .list xs => some (.tuple xs)
  | .tuple xs => some (.tuple xs)
  | _ => none
def lstP : P → Option P
  | .list xs => some (.list xs)
  | .tuple xs => some (.list xs)
  | _ => none
def sumP : P → Option P
  | .list xs => (intsP xs).map fun ns => .int ns.sum
  | _ => none
def strP : P → Option P
  | .str x => some (.str x)
  | _ => none
/-- built-in functions of one argument -/
inductive Bi where
  | len | abs | int | all | any | tuple | list | sum | str | isi (T : Ty)
  deriving DecidableEq
def Bi.f : Bi → P → Option P
  | .len => lenP | .abs => absP | .int => intP | .all => allP | .any => anyP | .tuple => tupP | .list => lstP | .sum => sumP | .str => strP
  | .isi T => fun x => some (.bool (isiP T x))

/-! ### the language -/
inductive Tg where
  | nm (i : Nat) (x : Str)
  | tp (ts : List (Nat × Str))
mutual
inductive Tm where
  | var (i : Nat) (x : Str)
  | cst (c : P)
  | fn (f : Nat)
  | glob (x : Str) (c : P)
  | bin (op : BOp) (a b : Tm)
  | neg (a : Tm)
  | notE (a : Tm)
  | bop (isOr : Bool) (ts : Tms)
  | cmp (op : COp) (a b : Tm)
  | chain (op op' : COp) (a b c : Tm)
  | ife (t a b : Tm)
  | tup (ts : Tms)
  | lst (ts : Tms)
  | ix (a b : Tm)
  | sl (a : Tm) (lo hi : To)
  | rev (a : Tm)
  | call (f : Nat) (ts : Tms)
  | bi (b : Bi) (a : Tm)
  | comp (own : List (Str × Nat)) (tg : Tg) (it : Tit) (cond : To) (elt : Tm)
inductive Tms where
  | nil | cons (t : Tm) (ts : Tms)
inductive To where
  | no | yes (t : Tm)
inductive Tit where
  | seq (t : Tm)
  | rng (t : Tm)
  | rng2 (a b : Tm)
  | zip (a b : Tm)
  | enum (t : Tm)
end
mutual
inductive Ts where
  | set (i : Nat) (x : Str) (e : Tm)
  | setT (tg : Tg) (e : Tm)
  | setP (is : List (Nat × Str)) (es : Tms)
  | setIx (i : Nat) (x : Str) (k e : Tm)
  | aug (i : Nat) (x : Str) (sub : Bool) (e : Tm)
  | app (i : Nat) (x : Str) (e : Tm)
  | expr (e : Tm)
  | ret (e : Tm)
  | ife (c : Tm) (a b : Tss)
  | forS (tg : Tg) (it : Tit) (b : Tss)
  | whl (n : Nat) (c : Tm) (b : Tss)
  | raise (c : Nat)
  | pass | brk | cont
inductive Tss where
  | nil
  | cons (t : Ts) (ts : Tss)
  | frz (i : Nat) (ts : Tss)
end

/-! ### the evaluator -/
def deref (ρ : Env) : RV → Option D
  | .sh x => some x
  | .fr x => some x
  | .br j => match ρ[j]? with
    | some (.own _ x) => some x
    | _ => none
def derefP (ρ : Env) (r : RV) : Option P := match deref ρ r with
  | some (.d x) => some x
  | _ => none
def shP (x : P) : RV := .sh (.d x)
def varE (i : Nat) (ρ : Env) : R RV := match ρ[i]? with
  | some (.val x) => .ok (.sh x) ρ
  | some (.own _ _) => .ok (.br i) ρ
  | _ => .bad
/-- a new list is nobody's yet -/
def newP : P → RV
  | .list xs => .fr (.d (.list xs))
  | x => shP x
/-- one operand; nw: the result is new -/
def un (nw : Bool) (f : P → Option P) (r : RV) (ρ : Env) : R RV := match derefP ρ r with
  | some x => (match f x with
    | some y => .ok (if nw then newP y else shP y) ρ
    | none => .bad)
  | none => .bad
def bi2 (nw : Bool) (f : P → P → Option P) (r s : RV) (ρ : Env) : R RV := match derefP ρ r, derefP ρ s with
  | some x, some y => (match f x y with
    | some z => .ok (if nw then newP z else shP z) ρ
    | none => .bad)
  | _, _ => .bad
def lstR (r : RV) (ρ : Env) : R RV := match deref ρ r with
  | some (.fz xs) => .ok (.fr (.d (.list (xs.map PyData.int)))) ρ
  | some (.d x) => (match lstP x with
    | some y => .ok (newP y) ρ
    | none => .bad)
  | _ => .bad
def cm2 (f : P → P → Option Bool) (r s : RV) (ρ : Env) : R RV := match derefP ρ r, derefP ρ s with
  | some x, some y => (match f x y with
    | some z => .ok (shP (.bool z)) ρ
    | none => .bad)
  | _, _ => .bad
def truD : D → Option Bool
  | .d x => some (truP x)
  | _ => none
def truR (r : RV) (ρ : Env) : R Bool := match deref ρ r with
  | some x => (match truD x with
    | some b => .ok b ρ
    | none => .bad)
  | none => .bad
/-- data of a list of results (an owned object does not come into a display) -/
def datas : List RV → Option (List P)
  | [] => some []
  | .sh (.d x) :: r => (datas r).map (x :: ·)
  | .fr (.d x) :: r => (datas r).map (x :: ·)
  | _ => none
def fnsOf : List RV → Option (List Nat)
  | [] => some []
  | .sh (.fn i) :: r => (fnsOf r).map (i :: ·)
  | _ => none
def tupE (rs : List RV) (ρ : Env) : R RV := if rs.length ≤ 16777216 then (match datas rs with
    | some xs => .ok (shP (.tuple xs)) ρ
    | none => (match fnsOf rs with
      | some is => .ok (.sh (.fns is)) ρ
      | none => .bad)) else .bad
def lstE (rs : List RV) (ρ : Env) : R RV := if rs.length ≤ 16777216 then (match datas rs with
    | some xs => .ok (.fr (.d (.list xs))) ρ
    | none => .bad) else .bad
/-- arguments: an owned object is lent, once -/
def argsOf (ρ : Env) : List RV → Option (List Arg)
  | [] => some []
  | .sh x :: r => (argsOf ρ r).map (.sh x :: ·)
  | .fr x :: r => (argsOf ρ r).map (.sh x :: ·)
  | .br j :: r => match ρ[j]? with
    | some (.own _ x) => (argsOf ρ r).map (.ln x :: ·)
    | _ => none
def lents : List RV → List Nat
  | [] => []
  | .br j :: r => j :: lents r
  | _ :: r => lents r
def putBk : List RV → List (Option D) → Env → Env
  | .br j :: r, some x :: b, ρ => putBk r b (match ρ[j]? with
    | some (.own l _) => ρ.set j (.own l x)
    | _ => ρ)
  | _ :: r, _ :: b, ρ => putBk r b ρ
  | _, _, ρ => ρ
def callE (Φ : Fs) (f : Nat) (rs : List RV) (ρ : Env) : R RV :=
  if (lents rs).Nodup then (match argsOf ρ rs with
    | some as => (match Φ f as with
      | .ok x fr bk => .ok (if fr then .fr x else .sh x) (putBk rs bk ρ)
      | .ex e bk => .ex e (putBk rs bk ρ)
      | .bad => .bad)
    | none => .bad) else .bad
def wipeE (ρ : Env) : List Nat → Env
  | [] => ρ
  | v :: vs => (wipeE ρ vs).set v .un
/-- behind a block the block's own names are as they were -/
def backE (ρ0 ρ : Env) : List Nat → Env
  | [] => ρ
  | v :: vs => (backE ρ0 ρ vs).set v (ρ0.getD v .un)
def setN : List (Nat × Str) → List P → Env → Option Env
  | [], [], ρ => some ρ
  | (i, _) :: r, x :: xs, ρ => match ρ[i]? with
    | some (.own true _) => none
    | some _ => setN r xs (ρ.set i (.val (.d x)))
    | none => none
  | _, _, _ => none
def setTg : Tg → D → Env → Option Env
  | .nm i _, x, ρ => match ρ[i]? with
    | some (.own true _) => none
    | some _ => some (ρ.set i (.val x))
    | none => none
  | .tp ts, .d (.tuple xs), ρ => setN ts xs ρ
  | _, _, _ => none
def rngL (a b : Int) : List D := (List.range (b - a).toNat).map fun (i : Nat) => .d (.int (a + (i : Int)))
def zipL : List P → List P → List D
  | x :: xs, y :: ys => .d (.tuple [x, y]) :: zipL xs ys
  | _, _ => []
def enumL (n : Nat) : List P → List D
  | x :: xs => .d (.tuple [.int n, x]) :: enumL (n + 1) xs
  | [] => []
def itemsD : D → Option (List D)
  | .d (.list xs) => some (xs.map .d)
  | .d (.tuple xs) => some (xs.map .d)
  | .fns is => some (is.map .fn)
  | _ => none
def shD : RV → Option D
  | .sh x => some x
  | .fr x => some x
  | .br _ => none
def seqI (r : RV) (ρ : Env) : R (List D) := match shD r with
  | some x => (match itemsD x with
    | some l => .ok l ρ
    | none => .bad)
  | none => .bad
def smallR (i : Int) : Bool := decide (-1000000000000 ≤ i) && decide (i ≤ 1000000000000)
def rngI (r s : RV) (ρ : Env) : R (List D) := match derefP ρ r, derefP ρ s with
  | some (.int a), some (.int b) => if smallR a && smallR b && decide ((b - a).toNat ≤ 16777216) then .ok (rngL a b) ρ else .bad
  | _, _ => .bad
def zipI (r s : RV) (ρ : Env) : R (List D) := match shD r, shD s with
  | some (.d (.list xs)), some (.d (.list ys)) => .ok (zipL xs ys) ρ
  | some (.d (.tuple xs)), some (.d (.tuple ys)) => .ok (zipL xs ys) ρ
  | _, _ => .bad
def enumI (r : RV) (ρ : Env) : R (List D) := match shD r with
  | some (.d (.list xs)) => .ok (enumL 0 xs) ρ
  | some (.d (.tuple xs)) => .ok (enumL 0 xs) ρ
  | _ => .bad
def toI (r : RV) (ρ : Env) : Option Int := match derefP ρ r with
  | some (.int i) => some i
  | _ => none
/-- the turns of a list comprehension -/
def compL (own : List Nat) (tg : Tg) (c : Env → R Bool) (e : Env → R RV) : List D → List P → Env → R (List P)
  | [], acc, ρ => .ok acc ρ
  | x :: xs, acc, ρ => match setTg tg x ρ with
    | none => .bad
    | some ρ1 => match c ρ1 with
      | .ok true ρ2 => (match e ρ2 with
        | .ok r ρ3 => (match datas [r] with
          | some [y] => compL own tg c e xs (acc ++ [y]) (wipeE ρ3 own)
          | _ => .bad)
        | _ => .bad)
      | .ok false ρ2 => compL own tg c e xs acc (wipeE ρ2 own)
      | _ => .bad
def compE (own : List Nat) (tg : Tg) (c : Env → R Bool) (e : Env → R RV) (items : List D) (ρ : Env) : R RV :=
  match compL own tg c e items [] (wipeE ρ own) with
  | .ok acc ρ' => .ok (.fr (.d (.list acc))) (backE ρ ρ' own)
  | _ => .bad

/-- what an expression is worth: its value, its truth -/
structure Pr where
  v : Env → R RV
  t : Env → R Bool
def ofV (v : Env → R RV) : Pr := ⟨v, fun ρ => (v ρ).bind truR⟩
def ofT (t : Env → R Bool) : Pr := ⟨fun ρ => (t ρ).bind fun b ρ1 => .ok (shP (.bool b)) ρ1, t⟩
def evsL : List Pr → Env → R (List RV)
  | [], ρ => .ok [] ρ
  | p :: ps, ρ => (p.v ρ).bind fun r ρ1 => (evsL ps ρ1).bind fun rs ρ2 => .ok (r :: rs) ρ2
def evB (isOr : Bool) : List Pr → Env → R RV
  | [], _ => .bad
  | [p], ρ => p.v ρ
  | p :: q :: ps, ρ => (p.v ρ).bind fun r ρ1 => (truR r ρ1).bind fun b ρ2 => if b == isOr then .ok r ρ2 else evB isOr (q :: ps) ρ2
def etB (isOr : Bool) : List Pr → Env → R Bool
  | [], _ => .bad
  | [p], ρ => p.t ρ
  | p :: q :: ps, ρ => (p.t ρ).bind fun b ρ1 => if b == isOr then .ok b ρ1 else etB isOr (q :: ps) ρ1
def chainE (op op' : COp) (a b c : Env → R RV) (ρ : Env) : R RV :=
  (a ρ).bind fun r ρ1 => (b ρ1).bind fun s ρ2 => (cm2 op.f r s ρ2).bind fun t ρ3 => (truR t ρ3).bind fun k ρ4 => if k then (c ρ4).bind fun u ρ5 => cm2 op'.f s u ρ5 else .ok (shP (.bool false)) ρ4

section
variable (Φ : Fs)
mutual
def ev : Tm → Pr
  | .var i _ => ofV (varE i)
  | .cst c => ofV fun ρ => .ok (shP c) ρ
  | .fn f => ofV fun ρ => .ok (.sh (.fn f)) ρ
  | .glob _ c => ofV fun ρ => .ok (shP c) ρ
  | .bin op a b => ofV fun ρ => ((ev a).v ρ).bind fun r ρ1 => ((ev b).v ρ1).bind fun s ρ2 => bi2 true op.f r s ρ2
  | .neg a => ofV fun ρ => ((ev a).v ρ).bind fun r ρ1 => un false negP r ρ1
  | .notE a => ofT fun ρ => ((ev a).t ρ).bind fun b ρ1 => .ok (!b) ρ1
  | .bop isOr ts => ⟨evB isOr (evl ts), etB isOr (evl ts)⟩
  | .cmp op a b => ofV fun ρ => ((ev a).v ρ).bind fun r ρ1 => ((ev b).v ρ1).bind fun s ρ2 => cm2 op.f r s ρ2
  | .chain op op' a b c => ofV (chainE op op' (ev a).v (ev b).v (ev c).v)
  | .ife t a b => ofV fun ρ => ((ev t).t ρ).bind fun c ρ1 => if c then (ev a).v ρ1 else (ev b).v ρ1
  | .tup ts => ofV fun ρ => (evsL (evl ts) ρ).bind tupE
  | .lst ts => ofV fun ρ => (evsL (evl ts) ρ).bind lstE
  | .ix a b => ofV fun ρ => ((ev a).v ρ).bind fun r ρ1 => ((ev b).v ρ1).bind fun s ρ2 => bi2 false ixP r s ρ2
  | .sl a lo hi => ofV fun ρ => ((ev a).v ρ).bind fun r ρ1 => (evo lo ρ1).bind fun l ρ2 => (evo hi ρ2).bind fun h ρ3 => un true (cutP l h) r ρ3
  | .rev a => ofV fun ρ => ((ev a).v ρ).bind fun r ρ1 => un true revP r ρ1
  | .call f ts => ofV fun ρ => (evsL (evl ts) ρ).bind (callE Φ f)
  | .bi b a => ofV fun ρ => ((ev a).v ρ).bind (if b = .list then lstR else un false b.f)
  | .comp own tg it cond elt => ofV fun ρ => (evi it ρ).bind fun items ρ1 => compE (own.map (·.2)) tg (etc cond) (ev elt).v items ρ1
def evl : Tms → List Pr
  | .nil => []
  | .cons t ts => ev t :: evl ts
def evo : To → Env → R (Option Int)
  | .no => fun ρ => .ok none ρ
  | .yes t => fun ρ => ((ev t).v ρ).bind fun r ρ1 => match toI r ρ1 with
    | some i => .ok (some i) ρ1
    | none => .bad
def etc : To → Env → R Bool
  | .no => fun ρ => .ok true ρ
  | .yes t => (ev t).t
def evi : Tit → Env → R (List D)
  | .seq t => fun ρ => ((ev t).v ρ).bind seqI
  | .rng t => fun ρ => ((ev t).v ρ).bind fun r ρ1 => rngI (shP (.int 0)) r ρ1
  | .rng2 a b => fun ρ => ((ev a).v ρ).bind fun r ρ1 => ((ev b).v ρ1).bind fun s ρ2 => rngI r s ρ2
  | .zip a b => fun ρ => ((ev a).v ρ).bind fun r ρ1 => ((ev b).v ρ1).bind fun s ρ2 => zipI r s ρ2
  | .enum t => fun ρ => ((ev t).v ρ).bind enumI
end
end

/-! ### statements -/
inductive SR where
  | nx (ρ : Env) | rt (r : RV) (ρ : Env) | bk (ρ : Env) | ct (ρ : Env) | ex (e : Ex) (ρ : Env) | bad
def sOf {α : Type} (r : R α) (k : α → Env → SR) : SR := match r with
  | .ok a ρ => k a ρ
  | .ex e ρ => .ex e ρ
  | .bad => .bad
/-- a name takes a result -/
def putR (i : Nat) (r : RV) (ρ : Env) : Option Env := match ρ[i]? with
  | some (.own true _) => none
  | none => none
  | some _ => match r with
    | .sh x => some (ρ.set i (.val x))
    | .fr x => some (ρ.set i (.own false x))
    | .br _ => none
def putRs : List (Nat × Str) → List RV → Env → Option Env
  | [], [], ρ => some ρ
  | (i, _) :: is, r :: rs, ρ => (putR i r ρ).bind (putRs is rs)
  | _, _, _ => none
def nxO : Option Env → SR
  | some ρ => .nx ρ
  | none => .bad
def appE (i : Nat) (r : RV) (ρ : Env) : Option Env := match datas [r], ρ[i]? with
  | some [y], some (.own l (.d (.list xs))) => if xs.length < 16777216 then some (ρ.set i (.own l (.d (.list (xs ++ [y]))))) else none
  | _, _ => none
def dctPut : List P → List P → P → P → Option (List P × List P)
  | [], [], k, v => some ([k], [v])
  | k' :: ks, v' :: vs, k, v => if PyData.eqv k' k then some (k' :: ks, v :: vs) else (dctPut ks vs k v).map fun p => (k' :: p.1, v' :: p.2)
  | _, _, _, _ => none
def ixSet (i : Nat) (k r : RV) (ρ : Env) : Option Env := match datas [k], datas [r], ρ[i]? with
  | some [.int j], some [y], some (.own l (.d (.list xs))) => (match ixN xs.length j with
    | some n => some (ρ.set i (.own l (.d (.list (xs.set n y)))))
    | none => none)
  | _, _, _ => none
def extE (i : Nat) (r : RV) (ρ : Env) : Option Env := match derefP ρ r, ρ[i]? with
  | some (.list ys), some (.own l (.d (.list xs))) => if xs.length + ys.length ≤ 16777216 then some (ρ.set i (.own l (.d (.list (xs ++ ys))))) else none
  | _, _ => none
def augE (i : Nat) (sub : Bool) (a : Int) (r : RV) (ρ : Env) : Option Env := match derefP ρ r with
  | some (.int b) => some (ρ.set i (.val (.d (.int (if sub then a - b else a + b)))))
  | _ => none
def frzE (i : Nat) (ρ : Env) : Option Env := match ρ[i]? with
  | some (.own false x) => some (ρ.set i (.val x))
  | some (.val _) => some ρ
  | _ => none
def forL (tg : Tg) (b : Env → SR) : List D → Env → SR
  | [], ρ => .nx ρ
  | x :: xs, ρ => match setTg tg x ρ with
    | none => .bad
    | some ρ1 => match b ρ1 with
      | .nx ρ2 => forL tg b xs ρ2
      | .ct ρ2 => forL tg b xs ρ2
      | .bk ρ2 => .nx ρ2
      | r => r
def whlL (c : Env → R Bool) (b : Env → SR) : Nat → Env → SR
  | 0, _ => .bad
  | n + 1, ρ => sOf (c ρ) fun t ρ1 => if t then (match b ρ1 with
      | .nx ρ2 => whlL c b n ρ2
      | .ct ρ2 => whlL c b n ρ2
      | .bk ρ2 => .nx ρ2
      | r => r) else .nx ρ1
section
variable (Φ : Fs)
mutual
def sv : Ts → Env → SR
  | .set i _ e => fun ρ => sOf ((ev Φ e).v ρ) fun r ρ1 => nxO (putR i r ρ1)
  | .setT tg e => fun ρ => sOf ((ev Φ e).v ρ) fun r ρ1 => match shD r with
    | some x => nxO (setTg tg x ρ1)
    | none => .bad
  | .setP is es => fun ρ => sOf (evsL (evl Φ es) ρ) fun rs ρ1 => nxO (putRs is rs ρ1)
  | .setIx i _ k e => fun ρ => sOf ((ev Φ e).v ρ) fun r ρ1 => match ρ1[i]? with
    | some (.own _ (.d (.list _))) => sOf ((ev Φ k).v ρ1) fun k ρ2 => nxO (ixSet i k r ρ2)
    | _ => .bad
  | .aug i _ sub e => fun ρ => match ρ[i]? with
    | some (.val (.d (.int a))) => sOf ((ev Φ e).v ρ) fun r ρ1 => nxO (augE i sub a r ρ1)
    | some (.own _ (.d (.list _))) => if sub then .bad else sOf ((ev Φ e).v ρ) fun r ρ1 => nxO (extE i r ρ1)
    | _ => .bad
  | .app i _ e => fun ρ => match ρ[i]? with
    | some (.own _ (.d (.list _))) => sOf ((ev Φ e).v ρ) fun r ρ1 => nxO (appE i r ρ1)
    | _ => .bad
  | .expr e => fun ρ => sOf ((ev Φ e).v ρ) fun _ ρ1 => .nx ρ1
  | .ret e => fun ρ => sOf ((ev Φ e).v ρ) fun r ρ1 => .rt r ρ1
  | .ife c a b => fun ρ => sOf ((ev Φ c).t ρ) fun t ρ1 => if t then svs a ρ1 else svs b ρ1
  | .forS tg it b => fun ρ => sOf (evi Φ it ρ) fun l ρ1 => forL tg (svs b) l ρ1
  | .whl n c b => fun ρ => whlL (ev Φ c).t (svs b) n ρ
  | .raise c => fun ρ => .ex ⟨c, []⟩ ρ
  | .pass => fun ρ => .nx ρ
  | .brk => fun ρ => .bk ρ
  | .cont => fun ρ => .ct ρ
def svs : Tss → Env → SR
  | .nil => fun ρ => .nx ρ
  | .cons t ts => fun ρ => match sv t ρ with
    | .nx ρ1 => svs ts ρ1
    | r => r
  | .frz i ts => fun ρ => match frzE i ρ with
    | some ρ1 => svs ts ρ1
    | none => .bad
end
end

/-! ### a def -/
/-- one def: how many parameters, how many slots, its body -/
structure Fd where
  np : Nat
  ns : Nat
  body : Tss
def slOf : Arg → Sl
  | .sh x => .val x
  | .ln x => .own true x
def start (n : Nat) (as : List Arg) : Env := as.map slOf ++ List.replicate (n - as.length) .un
def bkOf (ρ : Env) : List Arg → Nat → Option (List (Option D))
  | [], _ => some []
  | .sh _ :: r, i => (bkOf ρ r (i + 1)).map (none :: ·)
  | .ln _ :: r, i => match ρ[i]? with
    | some (.own true x) => (bkOf ρ r (i + 1)).map (some x :: ·)
    | _ => none
def retR (ρ : Env) : RV → Option (D × Bool)
  | .sh x => some (x, false)
  | .fr x => some (x, true)
  | .br j => match ρ[j]? with
    | some (.own false x) => some (x, true)
    | _ => none
def fin (as : List Arg) (r : SR) : FR := match r with
  | .nx ρ => (match bkOf ρ as 0 with
    | some bk => .ok (.d .none) false bk
    | none => .bad)
  | .rt r ρ => (match retR ρ r, bkOf ρ as 0 with
    | some (x, fr), some bk => .ok x fr bk
    | _, _ => .bad)
  | .ex e ρ => (match bkOf ρ as 0 with
    | some bk => .ex e bk
    | none => .bad)
  | _ => .bad
def run1 (T : Nat → Option Fd) (Φ : Fs) : Fs := fun f as => match T f with
  | some d => if as.length = d.np then fin as (svs Φ d.body (start d.ns as)) else .bad
  | none => .bad
def runs (T : Nat → Option Fd) : Nat → Fs
  | 0 => fun _ _ => .bad
  | k + 1 => run1 T (runs T k)
end Mp

set_option maxRecDepth 100000
set_option maxHeartbeats 4000000
/-! Mp3: the operations on data are what the machine does. -/
namespace Mp
open PySem PySem.Spec PyProof.Rows L2

/-- an operand: a value, or the content of an owned list -/
def Ro (K : PySem.W.Frag) (W : Wd) (H : Hp) (x : P) (v : V) : Prop :=
  Rp K W H x v ∨ ∃ a xs ds, x = .list ds ∧ v = .ref a ∧ H a = some (.lst xs) ∧ xs.length ≤ sizeLine ∧ RpA K W H ds xs
def Dom (W : Wd) (H : Hp) : Prop := ∀ a, W a → ∃ o, H a = some o ∧ Mut (some o)
/-- a result: a list is new -/
def Rn (K : PySem.W.Frag) (W : Wd) (H : Hp) (H' : Hp) : P → V → Prop
  | .list ds, v => ∃ p xs, v = .ref p ∧ H p = none ∧ H' = upd H p (.lst xs) ∧ xs.length ≤ sizeLine ∧ RpA K W H ds xs
  | x, v => (∀ a o, H a = some o → H' a = some o) ∧ Rp K W H' x v
def rOp2 (K : PySem.W.Frag) (f : P → P → Option P) : R2 := fun x y H Q => ∃ W a b c, Dom W H ∧ Ro K W H a x ∧ Ro K W H b y ∧ f a b = some c ∧ ∀ v H', Rn K W H H' c v → Q v H'
/-- a result that is there, or a new tuple -/
def rOp2s (K : PySem.W.Frag) (f : P → P → Option P) : R2 := fun x y H Q => ∃ W a b c, Dom W H ∧ Ro K W H a x ∧ Ro K W H b y ∧ f a b = some c ∧ ∀ v H', (∀ a o, H a = some o → H' a = some o) → Rp K W H' c v → Q v H'
def rCmp (K : PySem.W.Frag) (f : P → P → Option Bool) : R2 := fun x y H Q => ∃ W a b c, Ro K W H a x ∧ Ro K W H b y ∧ f a b = some c ∧ Q (.bl c) H
def rOp1 (K : PySem.W.Frag) (f : P → Option P) : V → Hp → VK → Prop := fun x H Q => ∃ W a c, Dom W H ∧ Ro K W H a x ∧ f a = some c ∧ ∀ v H', Rn K W H H' c v → Q v H'
def rOp1s (K : PySem.W.Frag) (f : P → Option P) : V → Hp → VK → Prop := fun x H Q => ∃ W a c, Dom W H ∧ Ro K W H a x ∧ f a = some c ∧ ∀ v H', (∀ a o, H a = some o → H' a = some o) → Rp K W H' c v → Q v H'
theorem OpR.imp {X : Cx} {f : Value → Value → Sem Value} {r r' : R2} (h : OpR X f r) (hi : ∀ x y H Q, r' x y H Q → r x y H Q) : OpR X f r' := fun pins s σ H x y v u Q I rx ry q => h pins s σ H x y v u Q I rx ry (hi _ _ _ _ q)
theorem OpR.or {X : Cx} {f : Value → Value → Sem Value} {r r' : R2} (h : OpR X f r) (h' : OpR X f r') : OpR X f (fun x y H Q => r x y H Q ∨ r' x y H Q) := fun pins s σ H x y v u Q I rx ry q => q.elim (h pins s σ H x y v u Q I rx ry) (h' pins s σ H x y v u Q I rx ry)
theorem UnR.imp {X : Cx} {f : Value → Sem Value} {r r' : V → Hp → VK → Prop} (h : UnR X f r) (hi : ∀ x H Q, r' x H Q → r x H Q) : UnR X f r' := fun pins s σ H x v Q I rx q => h pins s σ H x v Q I rx (hi _ _ _ q)
theorem CallR.imp {X : Cx} {f : Value} {r r' : List V → Hp → VK → Prop} (h : CallR X f r) (hi : ∀ x H Q, r' x H Q → r x H Q) : CallR X f r' := fun pins s σ H x v Q I rx q => h pins s σ H x v Q I rx (hi _ _ _ q)
theorem IxR.imp {X : Cx} {r r' : R2} (h : IxR X r) (hi : ∀ x y H Q, r' x y H Q → r x y H Q) : IxR X r' := fun a b pins s σ H x y v u Q I rx ry q hs => h a b pins s σ H x y v u Q I rx ry (hi _ _ _ _ q) hs

section
variable {K : PySem.W.Frag} {W : Wd} {H : Hp} {v : V}
theorem ro_int {i : Int} (h : Ro K W H (.int i) v) : v = .int i := by
  rcases h with h | ⟨a, xs, ds, e, _⟩
  · cases h; rfl
  · cases e
theorem ro_bool {i : Bool} (h : Ro K W H (.bool i) v) : v = .bl i := by
  rcases h with h | ⟨a, xs, ds, e, _⟩
  · cases h; rfl
  · cases e
theorem ro_none (h : Ro K W H .none v) : v = .non := by
  rcases h with h | ⟨a, xs, ds, e, _⟩
  · cases h; rfl
  · cases e
theorem ro_str {x : Str} (h : Ro K W H (.str x) v) : v = .str x ∧ PyData.strOk x = true ∧ x.length ≤ sizeLine := by
  rcases h with h | ⟨a, xs, ds, e, _⟩
  · cases h with | str _ h1 h2 => exact ⟨rfl, h1, h2⟩
  · cases e
theorem ro_tup {ds : List P} (h : Ro K W H (.tuple ds) v) : ∃ a xs, v = .ref a ∧ SqT K H a xs ∧ xs.length ≤ sizeLine ∧ RpA K W H ds xs := by
  rcases h with h | ⟨a, xs, ds, e, _⟩
  · cases h with | tup h1 h2 h3 => exact ⟨_, _, rfl, h1, h2, h3⟩
  · cases e
theorem ro_lst {ds : List P} (h : Ro K W H (.list ds) v) : ∃ a xs, v = .ref a ∧ H a = some (.lst xs) ∧ xs.length ≤ sizeLine ∧ RpA K W H ds xs := by
  rcases h with h | ⟨a, xs, ds', e, h1, h2, h3, h4⟩
  · cases h with | lst h1 h2 h3 h4 => exact ⟨_, _, rfl, h1, h3, h4⟩
  · cases e; exact ⟨a, xs, h1, h2, h3, h4⟩
theorem Ro.dp {x : P} (h : Ro K W H x v) : Dp K H v x := by
  rcases h with h | ⟨a, xs, ds', rfl, rfl, h2, h3, h4⟩
  · exact Rp.dp _ _ h
  · exact .lst (.inl (.inl h2)) (RpA.dp _ _ h4)
theorem Ro.can {x : P} (h : Ro K W H x v) : x.canLay0 = true := by
  rcases h with h | ⟨a, xs, ds', rfl, rfl, h2, h3, h4⟩
  · exact Rp.can _ _ h
  · exact RpA.can _ _ h4
/-- a new tuple -/
theorem rp_newTup {ds : List P} {xs : List V} {p : Addr} (hd : Dom W H) (r : RpA K W H ds xs) (hz : xs.length ≤ sizeLine) (n : H p = none) : (∀ a o, H a = some o → upd H p (.tup xs) a = some o) ∧ Rp K W (upd H p (.tup xs)) (.tuple ds) (.ref p) :=
  ⟨grow_upd n, .tup (.inl (.inl upd_same)) hz ((Stay.grow hd (grow_upd n)).rpA r)⟩
theorem rn_newTup {ds : List P} {xs : List V} {p : Addr} (hd : Dom W H) (r : RpA K W H ds xs) (hz : xs.length ≤ sizeLine) (n : H p = none) : Rn K W H (upd H p (.tup xs)) (.tuple ds) (.ref p) := rp_newTup hd r hz n
theorem rn_newLst {ds : List P} {xs : List V} {p : Addr} (r : RpA K W H ds xs) (hz : xs.length ≤ sizeLine) (n : H p = none) : Rn K W H (upd H p (.lst xs)) (.list ds) (.ref p) :=
  ⟨p, xs, rfl, n, rfl, hz, r⟩
theorem line_le {n : Nat} (h : n ≤ 16777216) : n ≤ sizeLine := by rw [sizeLine_eq]; exact h
theorem le_line {n : Nat} (h : n ≤ sizeLine) : n ≤ 16777216 := by rw [sizeLine_eq] at h; exact h
theorem strOk_append {x y : Str} (h : PyData.strOk x = true) (h' : PyData.strOk y = true) : PyData.strOk (x ++ y) = true := by
  unfold PyData.strOk at *
  show ((x.cps ++ y.cps).all _) = true
  rw [Array.all_append, h, h']; rfl
theorem str_len_append (x y : Str) : (x ++ y).length = x.length + y.length := by
  show (x.cps ++ y.cps).size = x.cps.size + y.cps.size
  simp
end

section
variable {X : Cx}
theorem opD_add : OpR X (binaryOp .Add) (rOp2 X.K addP) := by
  refine OpR.imp (((op_add (X := X)).or op_add_str).or ((op_catA).or op_cat)) fun x y H Q h => ?_
  obtain ⟨W, a, b, c, hd, ra, rb, e, q⟩ := h
  cases a with
  | int i =>
    cases b with
    | int j =>
      cases e
      refine .inl (.inl ⟨i, j, ro_int ra, ro_int rb, q _ _ ⟨fun _ _ e => e, .int _⟩⟩)
    | _ => cases e
  | str i =>
    cases b with
    | str j =>
      simp only [addP] at e
      split at e
      · cases e
        rename_i hz
        obtain ⟨e1, o1, z1⟩ := ro_str ra
        obtain ⟨e2, o2, z2⟩ := ro_str rb
        refine .inl (.inr ⟨i, j, e1, e2, line_le hz, q _ _ ⟨fun _ _ e => e, .str _ (strOk_append o1 o2) ?_⟩⟩)
        rw [str_len_append]; exact line_le hz
      · cases e
    | _ => cases e
  | tuple i =>
    cases b with
    | tuple j =>
      simp only [addP] at e
      split at e
      · cases e
        rename_i hz
        obtain ⟨p, xs, e1, s1, z1, r1⟩ := ro_tup ra
        obtain ⟨p', xs', e2, s2, z2, r2⟩ := ro_tup rb
        have l1 := r1.length
        have l2 := r2.length
        refine .inr (.inl ⟨p, p', xs, xs', e1, e2, s1, s2, line_le (by omega), fun n => ?_, fun n n' => ?_, fun n n' l hl => ?_⟩)
        · subst n; cases r1
          rw [List.nil_append] at q
          exact q _ _ ⟨fun _ _ e => e, .tup s2 z2 r2⟩
        · subst n'; cases r2
          rw [List.append_nil] at q
          exact q _ _ ⟨fun _ _ e => e, .tup s1 z1 r1⟩
        · exact q _ _ (rn_newTup hd (r1.append r2) (line_le (by rw [List.length_append]; omega)) hl)
      · cases e
    | _ => cases e
  | list i =>
    cases b with
    | list j =>
      simp only [addP] at e
      split at e
      · cases e
        rename_i hz
        obtain ⟨p, xs, e1, s1, z1, r1⟩ := ro_lst ra
        obtain ⟨p', xs', e2, s2, z2, r2⟩ := ro_lst rb
        have l1 := r1.length
        have l2 := r2.length
        refine .inr (.inr ⟨p, p', xs, xs', e1, e2, s1, s2, line_le (by omega), fun l hl => ?_⟩)
        exact q _ _ (rn_newLst (r1.append r2) (line_le (by rw [List.length_append]; omega)) hl)
      · cases e
    | _ => cases e
  | _ => cases e
theorem opD_sub : OpR X (binaryOp .Sub) (rOp2 X.K subP) := by
  refine OpR.imp (op_sub (X := X)) fun x y H Q h => ?_
  obtain ⟨W, a, b, c, hd, ra, rb, e, q⟩ := h
  cases a with
  | int i =>
    cases b with
    | int j =>
      cases e
      exact ⟨i, j, ro_int ra, ro_int rb, q _ _ ⟨fun _ _ e => e, .int _⟩⟩
    | _ => cases e
  | _ => cases e
theorem smallI_ok {i : Int} (h : smallI i = true) : -(2 ^ 64) < i ∧ i < 2 ^ 64 := by
  unfold smallI at h
  simp only [Bool.and_eq_true, decide_eq_true_eq] at h
  exact ⟨by omega, by omega⟩
theorem opD_mul : OpR X (binaryOp .Mult) (rOp2 X.K mulP) := by
  refine OpR.imp ((op_mul (X := X)).or (op_rep.or op_repT)) fun x y H Q h => ?_
  obtain ⟨W, a, b, c, hd, ra, rb, e, q⟩ := h
  cases a with
  | int i =>
    cases b with
    | int j =>
      simp only [mulP] at e
      split at e
      · cases e
        rename_i hz
        refine .inl ⟨i, j, ro_int ra, ro_int rb, ?_, q _ _ ⟨fun _ _ e => e, .int _⟩⟩
        rcases Bool.or_eq_true_iff.mp hz with z | z
        · exact .inl (smallI_ok z)
        · exact .inr (smallI_ok z)
      · cases e
    | _ => cases e
  | list xs =>
    cases b with
    | int k =>
      simp only [mulP] at e
      split at e
      · cases e
        rename_i hz
        obtain ⟨h1, h2, h3⟩ := hz
        obtain ⟨p, ys, e1, s1, z1, r1⟩ := ro_lst ra
        have l1 := r1.length
        refine .inr (.inl ⟨p, k, ys, e1, ro_int rb, s1, by omega, by omega, by rw [← l1]; exact line_le h1, fun l hl => q _ _ (rn_newLst (r1.rep _) ?_ hl)⟩)
        rw [PyProof.Rows.lm_len_rep_flat, ← l1, Nat.mul_comm]; exact line_le h1
      · cases e
    | _ => cases e
  | tuple xs =>
    cases b with
    | int k =>
      simp only [mulP] at e
      split at e
      · cases e
        rename_i hz
        obtain ⟨h0, h1, h2, h3⟩ := hz
        obtain ⟨p, ys, e1, s1, z1, r1⟩ := ro_tup ra
        have l1 := r1.length
        have hn : ys ≠ [] := fun z => h0 (by subst z; cases r1; rfl)
        refine .inr (.inr ⟨p, k, ys, e1, ro_int rb, s1, hn, h1, h2, by omega, fun l hl => q _ _ (rn_newTup hd (r1.rep _) ?_ hl)⟩)
        rw [PyProof.Rows.lm_len_rep_flat, ← l1]
        have a1 : k.toNat * xs.length ≤ 1000 * 1000 := Nat.mul_le_mul (by omega) h3
        exact line_le (by omega)
      · cases e
    | _ => cases e
  | _ => cases e
theorem opD_fdiv : OpR X (binaryOp .FloorDiv) (rOp2 X.K fdivP) := by
  refine OpR.imp (op_fdiv (X := X)) fun x y H Q h => ?_
  obtain ⟨W, a, b, c, hd, ra, rb, e, q⟩ := h
  cases a with
  | int i =>
    cases b with
    | int j =>
      simp only [fdivP] at e
      split at e
      · cases e
        rename_i hz
        exact ⟨i, j, ro_int ra, ro_int rb, hz, q _ _ ⟨fun _ _ e => e, .int _⟩⟩
      · cases e
    | _ => cases e
  | _ => cases e
theorem opD_mod : OpR X (binaryOp .Mod) (rOp2 X.K modP) := by
  refine OpR.imp (op_mod (X := X)) fun x y H Q h => ?_
  obtain ⟨W, a, b, c, hd, ra, rb, e, q⟩ := h
  cases a with
  | int i =>
    cases b with
    | int j =>
      simp only [modP] at e
      split at e
      · cases e
        rename_i hz
        exact ⟨i, j, ro_int ra, ro_int rb, hz, q _ _ ⟨fun _ _ e => e, .int _⟩⟩
      · cases e
    | _ => cases e
  | _ => cases e
theorem opD_pow : OpR X (binaryOp .Pow) (rOp2 X.K powP) := by
  refine OpR.imp (op_pow (X := X)) fun x y H Q h => ?_
  obtain ⟨W, a, b, c, hd, ra, rb, e, q⟩ := h
  cases a with
  | int i =>
    cases b with
    | int j =>
      simp only [powP] at e
      split at e
      · cases e
        rename_i hz
        refine ⟨i, j, ro_int ra, ro_int rb, ⟨by omega, by omega, ?_⟩, q _ _ ⟨fun _ _ e => e, .int _⟩⟩
        have : (2 : Nat) ^ 64 = 18446744073709551616 := by decide
        omega
      · cases e
    | _ => cases e
  | _ => cases e
def BOp.op : BOp → Operator
  | .add => .Add | .sub => .Sub | .mul => .Mult | .fdiv => .FloorDiv | .mod => .Mod | .pow => .Pow
theorem opD (op : BOp) : OpR X (binaryOp op.op) (rOp2 X.K op.f) := by
  cases op with
  | add => exact opD_add
  | sub => exact opD_sub
  | mul => exact opD_mul
  | fdiv => exact opD_fdiv
  | mod => exact opD_mod
  | pow => exact opD_pow
theorem unD_neg : UnR X (unaryOp .USub) (rOp1s X.K negP) := by
  refine UnR.imp (un_neg (X := X)) fun x H Q h => ?_
  obtain ⟨W, a, c, hd, ra, e, q⟩ := h
  cases a with
  | int i => cases e; exact ⟨i, ro_int ra, q _ _ (fun _ _ e => e) (.int _)⟩
  | _ => cases e

/-! ### comparisons -/
/-- what the comparisons of data ask of the stack -/
abbrev Un (X : Cx) : Prop := X.A.units + 70 < cLine
theorem opD_eq (hu : Un X) : OpR X (compareOp .Eq) (rCmp X.K eqP) := by
  intro pins s σ H x y v u Q I rx ry h
  obtain ⟨W, a, b, c, ra, rb, e, q⟩ := h
  obtain ⟨as, r1⟩ := Dp.reads I a x v ra.dp rx
  obtain ⟨bs, r2⟩ := Dp.reads I b y u rb.dp ry
  unfold eqP at e
  split at e
  · cases e
    rename_i hz
    exact SeqAt.compareEq_reads r1 r2 ra.can rb.can (by have := hu; omega) ⟨.bl _, H, I, rfl, q⟩
  · cases e
theorem opD_ne (hu : Un X) : OpR X (compareOp .NotEq) (rCmp X.K fun a b => (eqP a b).map (!·)) := by
  intro pins s σ H x y v u Q I rx ry h
  obtain ⟨W, a, b, c, ra, rb, e, q⟩ := h
  obtain ⟨as, r1⟩ := Dp.reads I a x v ra.dp rx
  obtain ⟨bs, r2⟩ := Dp.reads I b y u rb.dp ry
  obtain ⟨k, e0, ek⟩ := Option.map_eq_some_iff.mp e
  clear e
  have e := e0
  clear e0
  subst ek
  unfold eqP at e
  split at e
  · cases e
    rename_i hz
    exact SeqAt.compareNe_reads r1 r2 ra.can rb.can (by have := hu; omega) ⟨.bl _, H, I, rfl, q⟩
  · cases e
theorem rCmp_w {K : PySem.W.Frag} {f : P → P → Option Bool} {x y : V} {H : Hp} {Q : VK} (h : rCmp K f x y H Q) : ∃ W a b c, Ro K W H a x ∧ Ro K W H b y ∧ f a b = some c ∧ Q (.bl c) H := h
theorem intsP_ok {K : PySem.W.Frag} {W : Wd} {H : Hp} : ∀ {xs : List P} {ns : List Int} {vs : List V}, intsP xs = some ns → RpA K W H xs vs → vs = ns.map V.int
  | [], _, _, e, r => by cases e; cases r; rfl
  | x :: xs, ns, vs, e, r => by
    cases r with
    | cons r1 r2 =>
      cases x with
      | int i =>
        simp only [intsP, Option.map_eq_some_iff] at e
        obtain ⟨ms, e1, e2⟩ := e
        subst e2
        cases r1
        rw [intsP_ok e1 r2]; rfl
      | _ => cases e
theorem opD_lt (hu : Un X) : OpR X (compareOp .Lt) (rCmp X.K ltP) := by
  refine OpR.imp ((op_lt (X := X)).or (op_ltT (by have := hu; omega))) fun x y H Q h => ?_
  obtain ⟨W, a, b, c, ra, rb, e, q⟩ := h
  cases a with
  | int i =>
    cases b with
    | int j => cases e; exact .inl ⟨i, j, ro_int ra, ro_int rb, q⟩
    | _ => cases e
  | tuple xs =>
    cases b with
    | tuple ys =>
      simp only [ltP] at e
      split at e
      · cases e
        rename_i n1 n2 e1 e2
        obtain ⟨p, vs, h1, s1, z1, r1⟩ := ro_tup ra
        obtain ⟨p', vs', h2, s2, z2, r2⟩ := ro_tup rb
        rw [intsP_ok e1 r1] at s1
        rw [intsP_ok e2 r2] at s2
        exact .inr ⟨p, p', _, _, h1, h2, s1, s2, q⟩
      · cases e
    | _ => cases e
  | _ => cases e
theorem opD_gt : OpR X (compareOp .Gt) (rCmp X.K (COp.f .gt)) := by
  refine OpR.imp (op_gt (X := X)) fun x y H Q h => ?_
  obtain ⟨W, a, b, c, ra, rb, e, q⟩ := h
  cases a with
  | int i =>
    cases b with
    | int j => cases e; exact ⟨i, j, ro_int ra, ro_int rb, q⟩
    | _ => cases e
  | _ => cases e
theorem opD_le : OpR X (compareOp .LtE) (rCmp X.K leP) := by
  refine OpR.imp (op_le (X := X)) fun x y H Q h => ?_
  obtain ⟨W, a, b, c, ra, rb, e, q⟩ := h
  cases a with
  | int i =>
    cases b with
    | int j => cases e; exact ⟨i, j, ro_int ra, ro_int rb, q⟩
    | _ => cases e
  | _ => cases e
theorem opD_ge : OpR X (compareOp .GtE) (rCmp X.K fun a b => leP b a) := by
  refine OpR.imp (op_ge (X := X)) fun x y H Q h => ?_
  obtain ⟨W, a, b, c, ra, rb, e, q⟩ := h
  cases a with
  | int i =>
    cases b with
    | int j => cases e; exact ⟨i, j, ro_int ra, ro_int rb, q⟩
    | _ => cases e
  | _ => cases b <;> cases e
theorem ro_isN {K : PySem.W.Frag} {W : Wd} {H : Hp} {a : P} {x : V} (ra : Ro K W H a x) : decide (x = .non) = isNoneP a := by
  cases a with
  | none => rw [ro_none ra]; rfl
  | bool b => rw [ro_bool ra]; rfl
  | int b => rw [ro_int ra]; rfl
  | str b => rw [(ro_str ra).1]; rfl
  | list b => obtain ⟨a, xs, e, _⟩ := ro_lst ra; rw [e]; rfl
  | tuple b => obtain ⟨a, xs, e, _⟩ := ro_tup ra; rw [e]; rfl
  | dict b => have := ra.can; cases this
theorem opD_is : OpR X (compareOp .Is) (rCmp X.K isP) := by
  refine OpR.imp ((op_isN (X := X)).or op_isBl) fun x y H Q h => ?_
  obtain ⟨W, a, b, c, ra, rb, e, q⟩ := h
  cases b with
  | none =>
    refine .inl ⟨ro_none rb, ?_⟩
    have e' : some (isNoneP a) = some c := by cases a <;> exact e
    cases e'
    rw [ro_isN ra]; exact q
  | bool j =>
    cases a with
    | bool i =>
      cases e
      refine .inr ⟨i, j, ro_bool ra, ro_bool rb, ?_⟩
      rw [show decide (i = j) = (i == j) by cases i <;> cases j <;> rfl]; exact q
    | _ => cases e
  | _ => cases a <;> cases e
theorem opD_isnot : OpR X (compareOp .IsNot) (rCmp X.K fun a b => (isP a b).map (!·)) := by
  refine OpR.imp ((op_notN (X := X)).or op_notBl) fun x y H Q h => ?_
  obtain ⟨W, a, b, c, ra, rb, e, q⟩ := h
  obtain ⟨k, e0, ek⟩ := Option.map_eq_some_iff.mp e
  clear e
  have e := e0
  clear e0
  subst ek
  cases b with
  | none =>
    refine .inl ⟨ro_none rb, ?_⟩
    have e' : some (isNoneP a) = some k := by cases a <;> exact e
    cases e'
    rw [ro_isN ra]; exact q
  | bool j =>
    cases a with
    | bool i =>
      cases e
      refine .inr ⟨i, j, ro_bool ra, ro_bool rb, ?_⟩
      rw [show decide (i = j) = (i == j) by cases i <;> cases j <;> rfl]; exact q
    | _ => cases e
  | _ => cases a <;> cases e
theorem opD_in (hu : Un X) : OpR X (compareOp .In) (rCmp X.K inP) := by
  intro pins s σ H x y v u Q I rx ry h
  obtain ⟨W, a, b, c, ra, rb, e, q⟩ := h
  obtain ⟨as, r1⟩ := Dp.reads I a x v ra.dp rx
  obtain ⟨bs, r2⟩ := Dp.reads I b y u rb.dp ry
  cases b with
  | list ds =>
    simp only [inP] at e
    split at e
    · cases e
      exact SeqAt.in_list_reads r2 r1 rb.can ra.can (by have := hu; omega) ⟨.bl _, H, I, rfl, q⟩
    · cases e
  | tuple ds =>
    simp only [inP] at e
    split at e
    · cases e
      exact SeqAt.in_tuple_reads r2 r1 rb.can ra.can (by have := hu; omega) ⟨.bl _, H, I, rfl, q⟩
    · cases e
  | _ => cases e
theorem opD_notin (hu : Un X) : OpR X (compareOp .NotIn) (rCmp X.K fun a b => (inP a b).map (!·)) := by
  intro pins s σ H x y v u Q I rx ry h
  obtain ⟨W, a, b, c, ra, rb, e, q⟩ := h
  obtain ⟨as, r1⟩ := Dp.reads I a x v ra.dp rx
  obtain ⟨bs, r2⟩ := Dp.reads I b y u rb.dp ry
  obtain ⟨k, e0, ek⟩ := Option.map_eq_some_iff.mp e
  clear e
  have e := e0
  clear e0
  subst ek
  cases b with
  | list ds =>
    simp only [inP] at e
    split at e
    · cases e
      exact SeqAt.notIn_list_reads r2 r1 rb.can ra.can (by have := hu; omega) ⟨.bl _, H, I, rfl, q⟩
    · cases e
  | tuple ds =>
    simp only [inP] at e
    split at e
    · cases e
      exact SeqAt.notIn_tuple_reads r2 r1 rb.can ra.can (by have := hu; omega) ⟨.bl _, H, I, rfl, q⟩
    · cases e
  | _ => cases e
def COp.op : COp → CmpOp
  | .eq => .Eq | .ne => .NotEq | .lt => .Lt | .gt => .Gt | .le => .LtE | .ge => .GtE | .is => .Is | .isnot => .IsNot | .in_ => .In | .notin => .NotIn
theorem opC (hu : Un X) (op : COp) : OpR X (compareOp op.op) (rCmp X.K op.f) := by
  cases op with
  | eq => exact opD_eq hu
  | ne => exact opD_ne hu
  | lt => exact opD_lt hu
  | gt => exact opD_gt
  | le => exact opD_le
  | ge => exact opD_ge
  | is => exact opD_is
  | isnot => exact opD_isnot
  | in_ => exact opD_in hu
  | notin => exact opD_notin hu

/-! ### subscripts -/
theorem atI_rp {K : PySem.W.Frag} {W : Wd} {H : Hp} {ds : List P} {vs : List V} {i : Int} {c : P} (r : RpA K W H ds vs) (e : atI ds i = some c) : ∃ v, atI vs i = some v ∧ Rp K W H c v := by
  unfold atI at *
  rw [← r.length]
  obtain ⟨j, h1, h2⟩ := Option.bind_eq_some_iff.mp e
  obtain ⟨v, h3, h4⟩ := r.get h2
  exact ⟨v, by rw [h1]; exact h3, h4⟩
theorem ixD : IxR X (rOp2s X.K ixP) := by
  refine IxR.imp (ix_seq (X := X)) fun x y H Q h => ?_
  obtain ⟨W, a, b, c, hd, ra, rb, e, q⟩ := h
  cases b with
  | int i =>
    cases a with
    | list ds =>
      obtain ⟨p, xs, e1, s1, z1, r1⟩ := ro_lst ra
      obtain ⟨v, h1, h2⟩ := atI_rp r1 e
      exact .inl ⟨p, xs, i, v, e1, ro_int rb, .inl (.inl s1), h1, q _ _ (fun _ _ e => e) h2⟩
    | tuple ds =>
      obtain ⟨p, xs, e1, s1, z1, r1⟩ := ro_tup ra
      obtain ⟨v, h1, h2⟩ := atI_rp r1 e
      exact .inr (.inl ⟨p, xs, i, v, e1, ro_int rb, s1, h1, q _ _ (fun _ _ e => e) h2⟩)
    | str z =>
      obtain ⟨e1, o1, l1⟩ := ro_str ra
      obtain ⟨c', e2, e3⟩ := Option.map_eq_some_iff.mp (show (atI z.cps.toList i).map (fun c => PyData.str ⟨#[c]⟩) = some c from e)
      subst e3
      refine .inr (.inr ⟨z, i, c', e1, ro_int rb, l1, e2, q _ _ (fun _ _ e => e) (.str _ ?_ ?_)⟩)
      · unfold atI at e2
        obtain ⟨j, h1, h2⟩ := Option.bind_eq_some_iff.mp e2
        have hm : c' ∈ z.cps := by
          have := List.mem_of_getElem? h2
          simpa using this
        unfold PyData.strOk at *
        rw [Array.all_eq_true_iff_forall_mem] at o1
        simp [o1 c' hm]
      · show (1 : Nat) ≤ sizeLine
        rw [sizeLine_eq]; decide
    | _ => cases e
  | _ => cases a <;> cases e
theorem cutL_rp {K : PySem.W.Frag} {W : Wd} {H : Hp} {ds : List P} {vs : List V} (lo hi : Option Int) (r : RpA K W H ds vs) : RpA K W H (cutL ds lo hi) (cutV vs lo hi) := by
  unfold cutL cutV
  rw [r.length]
  exact (r.drop _).take _
def rSlD (K : PySem.W.Frag) : V → Option Int → Option Int → Hp → VK → Prop := fun x lo hi H Q => ∃ W a c, Dom W H ∧ Ro K W H a x ∧ cutP lo hi a = some c ∧ ∀ v H', Rn K W H H' c v → Q v H'
theorem slD : SlR X (rSlD X.K) := by
  intro pins s σ H x v vl vu lo hi sl Q I rx hs pl pu h
  refine (SlR.or (sl_list (X := X)) sl_tupA) pins s σ H x v vl vu lo hi sl Q I rx hs pl pu ?_
  obtain ⟨W, a, c, hd, ra, e, q⟩ := h
  cases a with
  | list ds =>
    cases e
    obtain ⟨p, xs, e1, s1, z1, r1⟩ := ro_lst ra
    exact .inl ⟨p, xs, e1, .inl (.inl s1), fun l hl => q _ _ (rn_newLst (cutL_rp lo hi r1) (Nat.le_trans (cutV_length _ _ _) z1) hl)⟩
  | tuple ds =>
    cases e
    obtain ⟨p, xs, e1, s1, z1, r1⟩ := ro_tup ra
    refine .inr ⟨p, xs, e1, s1, fun hw => ?_, fun hw l hl => q _ _ (rn_newTup hd (cutL_rp lo hi r1) (Nat.le_trans (cutV_length _ _ _) z1) hl)⟩
    have : cutL ds lo hi = ds := by
      unfold cutL
      rw [r1.length, hw.1, hw.2, List.drop_zero, Nat.sub_zero, ← r1.length, List.take_length]
    rw [this] at q
    exact q _ _ ⟨fun _ _ e => e, .tup s1 z1 r1⟩
  | _ => cases e

/-! ### built-in functions -/
def rB (K : PySem.W.Frag) (f : P → Option P) : List V → Hp → VK → Prop := fun xs H Q => ∃ x, xs = [x] ∧ rOp1s K f x H Q
def rBn (K : PySem.W.Frag) (f : P → Option P) : List V → Hp → VK → Prop := fun xs H Q => ∃ x, xs = [x] ∧ rOp1 K f x H Q
theorem cD_len : CallR X (.builtin "len") (rB X.K lenP) := by
  refine CallR.imp ((call_len_seq (X := X)).or call_len_str) fun xs H Q h => ?_
  obtain ⟨x, rfl, W, a, c, hd, ra, e, q⟩ := h
  cases a with
  | list ds =>
    cases e
    obtain ⟨p, xs, e1, s1, z1, r1⟩ := ro_lst ra
    subst e1
    refine .inl ⟨p, xs, rfl, .inl (.inl (.inl s1)), ?_⟩
    rw [← r1.length]
    exact q _ _ (fun _ _ e => e) (.int _)
  | tuple ds =>
    cases e
    obtain ⟨p, xs, e1, s1, z1, r1⟩ := ro_tup ra
    subst e1
    refine .inl ⟨p, xs, rfl, .inr s1, ?_⟩
    rw [← r1.length]
    exact q _ _ (fun _ _ e => e) (.int _)
  | str z =>
    cases e
    obtain ⟨e1, o1, l1⟩ := ro_str ra
    subst e1
    exact .inr ⟨z, rfl, l1, q _ _ (fun _ _ e => e) (.int _)⟩
  | _ => cases e
theorem cD_abs : CallR X (.builtin "abs") (rB X.K absP) := by
  refine CallR.imp (call_abs (X := X)) fun xs H Q h => ?_
  obtain ⟨x, rfl, W, a, c, hd, ra, e, q⟩ := h
  cases a with
  | int i => cases e; cases ro_int ra; exact ⟨i, rfl, q _ _ (fun _ _ e => e) (.int _)⟩
  | _ => cases e
theorem cD_int : CallR X (.type "int") (rB X.K intP) := by
  refine CallR.imp (call_int1 (X := X)) fun xs H Q h => ?_
  obtain ⟨x, rfl, W, a, c, hd, ra, e, q⟩ := h
  cases a with
  | int i => cases e; cases ro_int ra; exact .inl ⟨i, rfl, q _ _ (fun _ _ e => e) (.int _)⟩
  | bool i => cases e; cases ro_bool ra; exact .inr ⟨i, rfl, q _ _ (fun _ _ e => e) (.int _)⟩
  | _ => cases e
theorem boolsP_ok {K : PySem.W.Frag} {W : Wd} {H : Hp} : ∀ {xs : List P} {ns : List Bool} {vs : List V}, boolsP xs = some ns → RpA K W H xs vs → vs = ns.map V.bl
  | [], _, _, e, r => by cases e; cases r; rfl
  | x :: xs, ns, vs, e, r => by
    cases r with
    | cons r1 r2 =>
      cases x with
      | bool i =>
        simp only [boolsP, Option.map_eq_some_iff] at e
        obtain ⟨ms, e1, e2⟩ := e
        subst e2
        cases r1
        rw [boolsP_ok e1 r2]; rfl
      | _ => cases e
theorem cD_all (hc : X.calm = true) : CallR X (.builtin "all") (rB X.K allP) := by
  refine CallR.imp (cr_all (X := X) hc) fun xs H Q h => ?_
  obtain ⟨x, rfl, W, a, c, hd, ra, e, q⟩ := h
  cases a with
  | list ds =>
    obtain ⟨bs, e1, e2⟩ := Option.map_eq_some_iff.mp (show (boolsP ds).map (fun bs => PyData.bool (bs.all id)) = some c from e)
    subst e2
    obtain ⟨p, xs, e3, s1, z1, r1⟩ := ro_lst ra
    subst e3
    rw [boolsP_ok e1 r1] at s1
    exact ⟨p, bs, rfl, .inl (.inl s1), q _ _ (fun _ _ e => e) (.bl _)⟩
  | _ => cases e
theorem cD_any (hc : X.calm = true) : CallR X (.builtin "any") (rB X.K anyP) := by
  refine CallR.imp (cr_any (X := X) hc) fun xs H Q h => ?_
  obtain ⟨x, rfl, W, a, c, hd, ra, e, q⟩ := h
  cases a with
  | list ds =>
    obtain ⟨bs, e1, e2⟩ := Option.map_eq_some_iff.mp (show (boolsP ds).map (fun bs => PyData.bool (bs.any id)) = some c from e)
    subst e2
    obtain ⟨p, xs, e3, s1, z1, r1⟩ := ro_lst ra
    subst e3
    rw [boolsP_ok e1 r1] at s1
    exact ⟨p, bs, rfl, .inl (.inl s1), q _ _ (fun _ _ e => e) (.bl _)⟩
  | _ => cases e
theorem cD_sum (hc : X.calm = true) : CallR X (.builtin "sum") (rB X.K sumP) := by
  refine CallR.imp (cr_sum (X := X) hc) fun xs H Q h => ?_
  obtain ⟨x, rfl, W, a, c, hd, ra, e, q⟩ := h
  cases a with
  | list ds =>
    obtain ⟨bs, e1, e2⟩ := Option.map_eq_some_iff.mp (show (intsP ds).map (fun bs => PyData.int bs.sum) = some c from e)
    subst e2
    obtain ⟨p, xs, e3, s1, z1, r1⟩ := ro_lst ra
    subst e3
    rw [intsP_ok e1 r1] at s1
    exact ⟨p, bs, rfl, .inl (.inl s1), q _ _ (fun _ _ e => e) (.int _)⟩
  | _ => cases e
theorem cD_tuple : CallR X (.type "tuple") (rB X.K tupP) := by
  refine CallR.imp (call_tuple_of (X := X)) fun xs H Q h => ?_
  obtain ⟨x, rfl, W, a, c, hd, ra, e, q⟩ := h
  cases a with
  | list ds =>
    cases e
    obtain ⟨p, xs, e1, s1, z1, r1⟩ := ro_lst ra
    subst e1
    refine ⟨p, xs, rfl, .inl ⟨.inl (.inl s1), fun l hl => ?_⟩⟩
    obtain ⟨g, r⟩ := rp_newTup hd r1 z1 hl
    exact q _ _ g r
  | tuple ds =>
    cases e
    obtain ⟨p, xs, e1, s1, z1, r1⟩ := ro_tup ra
    subst e1
    exact ⟨p, xs, rfl, .inr ⟨s1, q _ _ (fun _ _ e => e) (.tup s1 z1 r1)⟩⟩
  | _ => cases e
theorem cD_str : CallR X (.type "str") (rB X.K strP) := by
  refine CallR.imp (SkE.call_str_str (X := X)) fun xs H Q h => ?_
  obtain ⟨x, rfl, W, a, c, hd, ra, e, q⟩ := h
  cases a with
  | str z =>
    cases e
    obtain ⟨e1, z1, z2⟩ := ro_str ra
    exact ⟨z, by rw [e1], q _ _ (fun _ _ e => e) (.str z z1 z2)⟩
  | _ => cases e
/-- list(x): of data, of the law's own argument -/
def rLst (K : PySem.W.Frag) : List V → Hp → VK → Prop := fun xs H Q => ∃ x, xs = [x] ∧ (rOp1 K lstP x H Q ∨
  ∃ (W : Wd) (ns : List Int), Dom W H ∧ RpD K (fun _ => 0) W H (.fz ns) x ∧ ∀ v H', Rn K W H H' (.list (ns.map PyData.int)) v → Q v H')
theorem rpA_ints {K : PySem.W.Frag} {W : Wd} {H : Hp} : ∀ ns : List Int, RpA K W H (ns.map PyData.int) (ns.map V.int)
  | [] => .nil
  | n :: ns => .cons (.int n) (rpA_ints ns)
theorem cD_list : CallR X (.type "list") (rLst X.K) := by
  refine CallR.imp (call_list_of (X := X)) fun xs H Q h => ?_
  obtain ⟨x, rfl, ⟨W, a, c, hd, ra, e, q⟩ | ⟨W, ns, hd, r, q⟩⟩ := h
  · cases a with
    | list ds =>
      cases e
      obtain ⟨p, xs, e1, s1, z1, r1⟩ := ro_lst ra
      subst e1
      exact ⟨p, xs, rfl, .inl (.inl (.inl s1)), fun l hl => q _ _ (rn_newLst r1 z1 hl)⟩
    | tuple ds =>
      cases e
      obtain ⟨p, xs, e1, s1, z1, r1⟩ := ro_tup ra
      subst e1
      exact ⟨p, xs, rfl, .inr s1, fun l hl => q _ _ (rn_newLst r1 z1 hl)⟩
    | _ => cases e
  · obtain ⟨hz, a, e1, h⟩ := r
    subst e1
    exact ⟨a, _, rfl, .inl h.sq, fun l hl => q _ _ (rn_newLst (rpA_ints ns) (by rw [List.length_map]; exact line_le hz) hl)⟩
def Ty.s : Ty → String
  | .int => "int" | .bool => "bool" | .str => "str" | .tuple => "tuple" | .list => "list"
def tyS : P → String
  | .none => "NoneType" | .bool _ => "bool" | .int _ => "int" | .str _ => "str" | .list _ => "list" | .tuple _ => "tuple" | .dict _ => "dict"
theorem ro_ty {K : PySem.W.Frag} {W : Wd} {H : Hp} {a : P} {x : V} (ra : Ro K W H a x) : TyX K H x (.type (tyS a)) := by
  cases a with
  | none => rw [ro_none ra]; exact .base .non
  | bool b => rw [ro_bool ra]; exact .base (.bl b)
  | int b => rw [ro_int ra]; exact .base (.int b)
  | str b => rw [(ro_str ra).1]; exact .base (.str b)
  | list b =>
    obtain ⟨a, xs, e, h, _⟩ := ro_lst ra
    rw [e]
    exact .base (.lst h)
  | tuple b =>
    obtain ⟨a, xs, e, h, _⟩ := ro_tup ra
    rw [e]
    rcases h with (h | ⟨o, h⟩) | ⟨o, its, n, h1, h2, _⟩
    · exact .base (.tup h)
    · exact .fTuple h
    · exact .kTuple h1 h2
  | dict b => have := ra.can; cases this
theorem kit_non (T : Ty) : kitB "NoneType" T.s = some false := by cases T <;> decide +kernel
theorem kit_bool (T : Ty) : kitB "bool" T.s = some (isiP T (.bool true)) := by cases T <;> decide +kernel
theorem kit_int (T : Ty) : kitB "int" T.s = some (isiP T (.int 0)) := by cases T <;> decide +kernel
theorem kit_str (T : Ty) : kitB "str" T.s = some (isiP T (.str Str.empty)) := by cases T <;> decide +kernel
theorem kit_list (T : Ty) : kitB "list" T.s = some (isiP T (.list [])) := by cases T <;> decide +kernel
theorem kit_tuple (T : Ty) : kitB "tuple" T.s = some (isiP T (.tuple [])) := by cases T <;> decide +kernel
theorem isiP_kit (T : Ty) (a : P) (h : a.canLay0 = true) : kitB (tyS a) T.s = some (isiP T a) := by
  cases a with
  | none => exact (kit_non T).trans (by cases T <;> rfl)
  | bool b => exact (kit_bool T).trans (by cases T <;> rfl)
  | int b => exact (kit_int T).trans (by cases T <;> rfl)
  | str b => exact (kit_str T).trans (by cases T <;> rfl)
  | list b => exact (kit_list T).trans (by cases T <;> rfl)
  | tuple b => exact (kit_tuple T).trans (by cases T <;> rfl)
  | dict b => cases h
def rIs (K : PySem.W.Frag) (T : Ty) : List V → Hp → VK → Prop := fun xs H Q => ∃ x W a, xs = [x, .ty T.s] ∧ Ro K W H a x ∧ Q (.bl (isiP T a)) H
theorem cD_isi (T : Ty) : CallR X (.builtin "isinstance") (rIs X.K T) := by
  refine CallR.imp (call_isi (X := X)) fun xs H Q h => ?_
  obtain ⟨x, W, a, rfl, ra, q⟩ := h
  exact ⟨x, _, _, _, _, rfl, .ty T.s, ro_ty ra, kit_ty (isiP_kit T a ra.can), q⟩
/-! ### truth -/
theorem truP_ok {K : PySem.W.Frag} {W : Wd} {H : Hp} {a : P} {x : V} (ra : Ro K W H a x) : TruV K x H (truP a) := by
  cases a with
  | none => rw [ro_none ra]; rfl
  | bool b => rw [ro_bool ra]; rfl
  | int b => rw [ro_int ra]; rfl
  | str b =>
    obtain ⟨e, _, z⟩ := ro_str ra
    rw [e]
    exact ⟨z, rfl⟩
  | list b =>
    obtain ⟨a, xs, e, h, z, r⟩ := ro_lst ra
    rw [e]
    refine .inl ⟨xs, .inl (.inl h), ?_⟩
    show (!b.isEmpty) = !xs.isEmpty
    have := r.length
    cases b <;> cases xs <;> first | rfl | (simp at this)
  | tuple b =>
    obtain ⟨a, xs, e, h, z, r⟩ := ro_tup ra
    rw [e]
    refine .inr (.inl ⟨xs, h, ?_⟩)
    show (!b.isEmpty) = !xs.isEmpty
    have := r.length
    cases b <;> cases xs <;> first | rfl | (simp at this)
  | dict b => have := ra.can; cases this
end
end Mp

set_option maxRecDepth 100000
set_option maxHeartbeats 4000000
/-! Mp3b: x[::-1] of lists and tuples. -/
namespace Mp
open PySem PySem.Spec PyProof.Rows L2 HT
section
variable {prog : Program} {w : World} {A : Around} {E : Value → Shared → Prop} {s : Shared}
theorem sliceApplied_rev {sl : Addr} {vs : Value} {n : Nat} {Q : Int × Int × Nat → Shared → Prop} (hs : s.heap.IsSliceOf sl .none .none vs) (ps : IsPart vs (some (-1)))
    (h : Q ((n : Int) - 1, -1, n) s) : wpAny (model prog w) A (Builtin.Slice.sliceApplied (.ref sl) (pure (n : Int))) Q E s := by
  obtain ⟨os, hos, hcs, hds⟩ := id hs
  unfold Builtin.Slice.sliceApplied Builtin.Slice.sliceFields
  refine wpAny_bind (wpAny_bind (wpAny_field hos hds (x := .none) rfl (wpAny_bind (wpAny_field hos hds (x := .none) rfl (wpAny_bind (wpAny_field hos hds (x := vs) rfl (wpAny_pure ?_)))))))
  refine wpAny_bind (slicePart_ ps ?_)
  show wpAny _ _ (if ((-1 : Int) == 0) = true then _ else _) _ _ s
  rw [if_neg (by decide)]
  refine wpAny_bind (slicePart_none (wpAny_bind (slicePart_none (wpAny_bind (wpAny_pure ?_)))))
  show wpAny _ _ (pure ((n : Int) - 1, (-1 : Int), Builtin.Slice.slicePlaces ((n : Int) - 1) (-1) (-1))) _ _ s
  have e : Builtin.Slice.slicePlaces ((n : Int) - 1) (-1) (-1) = n := by
    unfold Builtin.Slice.slicePlaces
    have h1 : ¬ ((-1 : Int) > 0) := by omega
    simp only [h1, if_false, Int.neg_neg, Int.ediv_one]
    split <;> omega
  rw [e]
  exact wpAny_pure h
theorem rev_pick {α : Type} (l : List α) : ((List.range l.length).filterMap fun (k : Nat) => l[((l.length : Int) - 1 + (k : Int) * -1).toNat]?) = l.reverse := by
  have key : ∀ n, n ≤ l.length → ((List.range n).filterMap fun (k : Nat) => l[((l.length : Int) - 1 + (k : Int) * -1).toNat]?) = l.reverse.take n := by
    intro n
    induction n with
    | zero => intro _; rfl
    | succ n ih =>
      intro hn
      have h1 : ((l.length : Int) - 1 + (n : Int) * -1).toNat = l.length - 1 - n := by omega
      rw [List.range_succ, List.filterMap_append, ih (by omega), List.take_add_one, List.getElem?_reverse (by omega), List.getElem?_eq_getElem (show l.length - 1 - n < l.length by omega)]
      congr 1
      rw [List.filterMap_cons, h1, List.getElem?_eq_getElem (show l.length - 1 - n < l.length by omega)]
      rfl
  rw [key l.length (Nat.le_refl _), ← List.length_reverse, List.take_length]
theorem getItem_tuple_rev {t sl : Addr} {items : Array Value} {vs : Value} {Q : Value → Shared → Prop} (ht : IsTup s.heap t items) (hs : s.heap.IsSliceOf sl .none .none vs) (ps : IsPart vs (some (-1)))
    (h : Q (.ref s.heap.objs.size) { s with heap := s.heap.push { cls := .type "tuple", data := .seq items.toList.reverse.toArray } })
    (hsz : items.size ≤ sizeLine) : wpAny (model prog w) A (getItem (.ref t) (.ref sl)) Q E s := by
  have htake : sizeOk (.seq items.toList.reverse.toArray) := by
    show items.toList.reverse.toArray.size ≤ sizeLine
    rw [List.size_toArray, List.length_reverse, Array.length_toList]
    exact hsz
  obtain ⟨os, hos, hcs, hds⟩ := id hs
  have hTs : s.TypeIs (.ref sl) "slice" := ⟨os, hos, hcs⟩
  unfold getItem
  try with_reducible refine wpAny_holding ?_
  first | refine wpAny_bind (wpAny_pure ?_) | skip
  refine wpAny_bind (wpAny_sequenceKey ht.typeIs (by decide) ?_)
  refine wpAny_bind (wpAny_callSpecial?_slot (name := Str.ofString "__getitem__") ht.typeIs PyProof.Rows.slot_tuple_getitem
    (wpAny_call_entry PyProof.Rows.slot_tuple_getitem ht.typeIs entry_tuple_getitem ?_ (args_tuple_getitem _ _)))
  show wpAny _ _ (Builtin.Tuple.tupleItemsOf (.ref t) >>= _) _ _ s
  refine wpAny_bind (tupleItemsOf_ ht ?_)
  refine wpAny_bind (wpAny_typeOf hTs ?_)
  rw [if_pos (by decide)]
  refine wpAny_bind (sliceApplied_rev hs ps ?_)
  have hno : ¬ ((((items.size : Int) - 1) == 0 && (-1 : Int) == 1 && items.size == items.size) = true) := by
    intro q
    rw [Bool.and_eq_true, Bool.and_eq_true] at q
    have := eq_of_beq q.1.2
    omega
  show wpAny _ _ (if (((items.size : Int) - 1) == 0 && (-1 : Int) == 1 && items.size == items.size) = true then _ else _) _ _ s
  rw [if_neg hno]
  have e : ((List.range items.size).filterMap fun (k : Nat) => items[((items.size : Int) - 1 + (k : Int) * -1).toNat]?).toArray = items.toList.reverse.toArray := by
    have := rev_pick items.toList
    rw [Array.length_toList] at this
    rw [← this]
    have e2 : (fun (k : Nat) => items[((items.size : Int) - 1 + (k : Int) * -1).toNat]?) = fun (k : Nat) => items.toList[((items.size : Int) - 1 + (k : Int) * -1).toNat]? := by
      funext k
      rw [Array.getElem?_toList]
    rw [e2]
  rw [e]
  first
    | exact wpAny_bind (m := Builtin.Tuple.tupleExact _) (wpAny_newObj_type (wpAny_pure ⟨_, rfl, wpAny_pure h⟩) htake)
    | exact wpAny_bind (m := Builtin.Tuple.tupleExact _) (wpAny_newObj_type (wpAny_bind (wpAny_pure (wpAny_pure ⟨_, rfl, wpAny_pure h⟩))) htake)
    | exact wpAny_bind (wpAny_bind (m := Builtin.Tuple.tupleExact _) (wpAny_newObj_type (wpAny_pure (wpAny_pure ⟨_, rfl, wpAny_pure h⟩)) htake))
    | exact wpAny_bind (wpAny_bind (m := Builtin.Tuple.tupleExact _) (wpAny_newObj_type (wpAny_pure ⟨_, rfl, wpAny_pure h⟩) htake))
end
section
variable {X : Cx} {pos : Pos}
theorem pe_rev {e : Expr} {te : TE} {k : Nat} {p1 p2 p3 pos : Pos} (he : PE X e te) : PE X (.Subscript e (.Slice none none (some (.UnaryOp .USub (.Constant (.int 1) k p1) p2)) p3) pos) (fun σ H Q => te σ H fun x H1 => rOp1 X.K revP x H1 Q) := by
  refine ⟨fun pins s σ H Q I h => ?_⟩
  refine Subscript_ (thn (he.run pins s σ H _ I h) fun v s1 ⟨x, H1, I1, r1, q1⟩ => ?_)
  obtain ⟨W, a, c, hd, ra, ef, q⟩ := q1
  have hst : PO X (some (.UnaryOp .USub (.Constant (.int 1) k p1) p2)) (tPart (tUn (rU fun i => .int (-i)) (tC (.int 1)))) := po_some (pe_un un_neg pe_int)
  refine wpAny_Slice (thn (po_none.run pins s1 σ H1 (fun o H2 => o = none ∧ H2 = H1) I1 ⟨rfl, rfl⟩) fun vl s2 ⟨l, H2, I2, pl, el, e2⟩ => ?_)
  subst el e2
  refine thn (po_none.run pins s2 σ H2 (fun o H3 => o = none ∧ H3 = H2) I2 ⟨rfl, rfl⟩) fun vu s3 ⟨u, H3, I3, pu, eu, e3⟩ => ?_
  subst eu e3
  refine thn (hst.run pins s3 σ H3 (fun o H4 => o = some (-1) ∧ H4 = H3) I3 ⟨1, rfl, -1, rfl, rfl, rfl⟩) fun vs s4 ⟨o, H4, I4, ps, eo, e4⟩ => ?_
  subst eo e4
  have I5 : Inv X pins σ H4 { s4 with heap := s4.heap.push { cls := .type "slice", data := .fields #[vl, vu, vs] } } := I4.kept (t' := s4.toks) fun b ob q => Heap.get?_push_of_some _ q
  show wpAny (model X.prog X.w) X.A (subscriptTail e (.Slice none none (some (.UnaryOp .USub (.Constant (.int 1) k p1) p2)) p3) v (.ref s4.heap.objs.size)) (EP X pins σ Q) X.xe { s4 with heap := s4.heap.push { cls := .type "slice", data := .fields #[vl, vu, vs] } }
  cases a with
  | list ds =>
    cases ef
    obtain ⟨p, xs, e1, s1', z1, r⟩ := ro_lst ra
    subst e1
    cases r1
    obtain ⟨its, r', ht, hz⟩ := I5.list (.inl (.inl s1'))
    have hlen := r'.length
    refine tail_any (ops := [.ref p, .ref s4.heap.objs.size]) ht.isList.typeIs (PySem.slot_list_getitem.lookup) ?_ (by with_unfolding_all rfl)
    refine wpAny_getItem_list_slice ht.isList (Heap.IsSliceOf.new _ vl vu vs) pl pu ps (by decide) ?_ (by rw [List.size_toArray]; omega)
    rw [PySem.W.krv_pick]
    refine ⟨.ref _, _, I5.laid (t' := s4.toks) (o := .lst xs.reverse) (fun b ob q => Heap.get?_push_of_some _ q) (Nat.le_refl _) ?_, rfl, q _ _ (rn_newLst r.reverse (by rw [List.length_reverse]; exact z1) (I5.hok.fresh (Nat.le_refl _)))⟩
    exact ⟨by rw [List.length_reverse]; exact hz, _, 0, r'.reverse, Heap.get?_push_size _ rfl⟩
  | tuple ds =>
    cases ef
    obtain ⟨p, xs, e1, s1', z1, r⟩ := ro_tup ra
    subst e1
    cases r1
    cases pl
    cases pu
    obtain ⟨its, r', ht, hz⟩ := I5.tuple s1'
    have hlen := r'.length
    refine tail_any (ops := [.ref p, .ref s4.heap.objs.size]) ht.typeIs (PyProof.Rows.slot_tuple_getitem.lookup) ?_ (by with_unfolding_all rfl)
    refine getItem_tuple_rev ht (Heap.IsSliceOf.new _ _ _ vs) ps ?_ (by rw [List.size_toArray]; omega)
    refine ⟨.ref _, _, I5.laid (t' := s4.toks) (o := .tup xs.reverse) (fun b ob q => Heap.get?_push_of_some _ q) (Nat.le_refl _) ?_, rfl, q _ _ (rn_newTup hd r.reverse (by rw [List.length_reverse]; exact z1) (I5.hok.fresh (Nat.le_refl _)))⟩
    exact ⟨by rw [List.length_reverse]; exact hz, _, r'.reverse, IsTup.new _ _⟩
  | _ => cases ef
end
end Mp

set_option maxRecDepth 100000
set_option maxHeartbeats 4000000
/-! Mp4: readings by the evaluator: results, sequences, operators. -/
namespace Mp
open PySem PySem.Spec PyProof.Rows L2

/-- what there is -/
abbrev Ex_ (H : Hp) : Wd := fun a => H a ≠ none
/-- a result stands at v; W0: what there was where the evaluation began -/
def RpR (K : PySem.W.Frag) (fa : FA) (W0 W : Wd) (ρ : Env) (σ : L2.St) (H : Hp) : RV → V → Prop
  | .sh x, v => RpD K fa W H x v
  | .fr x, v => ∃ a, v = V.ref a ∧ W a ∧ ¬ W0 a ∧ ¬ Ow ρ σ a ∧ RpO K W H x a
  | .br j, v => σ[j]? = some (some v) ∧ ∃ l x, ρ[j]? = some (Sl.own l x)
/-- an exception: its class, its own dict -/
def RpX (ca : FA) (e : Ex) (c : Value) (d : Option Addr) (H : Hp) : Prop := c = .ref (ca e.c) ∧ e.fs = [] ∧ d = none

structure Ctx where
  K : PySem.W.Frag
  fa : FA
  ca : FA
  Wx : WX
variable (C : Ctx)
/-- what is wanted of an evaluation that began at ρ, H -/
def Oc (W : Wd) (ρ : Env) (σ : L2.St) (H : Hp) (Q : VK) : R RV → Prop
  | .ok r ρ' => ∀ W' v H', FxE C.K C.fa W ρ σ H W' ρ' H' → RpR C.K C.fa (Ex_ H) W' ρ' σ H' r v → Q v H'
  | .ex e ρ' => ∀ c d W' H', FxE C.K C.fa W ρ σ H W' ρ' H' → RpX C.ca e c d H' → C.Wx c d σ H'
  | .bad => False
def OcG {α : Type} (W : Wd) (ρ : Env) (σ : L2.St) (H : Hp) (Q : α → Env → Wd → Hp → Prop) : R α → Prop
  | .ok r ρ' => ∀ W' H', FxE C.K C.fa W ρ σ H W' ρ' H' → Q r ρ' W' H'
  | .ex e ρ' => ∀ c d W' H', FxE C.K C.fa W ρ σ H W' ρ' H' → RpX C.ca e c d H' → C.Wx c d σ H'
  | .bad => False
/-- a reading by the evaluator -/
def rd (f : Env → R RV) : TE := fun σ H Q => ∃ W ρ, RS C.K C.fa W ρ σ H ∧ Oc C W ρ σ H Q (f ρ)
def rdT (f : Env → R Bool) : TT := fun σ H Q => ∃ W ρ, RS C.K C.fa W ρ σ H ∧ OcG C W ρ σ H (fun b _ _ H' => Q b H') (f ρ)
variable {C}

section
variable {K : PySem.W.Frag} {fa : FA} {W W0 W1 W2 : Wd} {ρ ρ0 ρ1 ρ2 : Env} {σ : L2.St} {H H0 H1 H2 : Hp} {Q : VK} {v : V}
theorem RpR.base {r : RV} (h : RpR K fa W1 W ρ σ H r v) (m : ∀ a, W0 a → W1 a) : RpR K fa W0 W ρ σ H r v := by
  cases r with
  | sh x => exact h
  | fr x =>
    obtain ⟨a, e, w, n, o, r⟩ := h
    exact ⟨a, e, w, fun z => n (m a z), o, r⟩
  | br j => exact h
theorem RpO.there {x : D} {a : Addr} (h : RpO K W H x a) : ∃ o, H a = some o ∧ Mut (some o) := by
  cases x with
  | d x =>
    cases x with
    | list ds => obtain ⟨xs, h1, _⟩ := h; exact ⟨_, h1, trivial⟩
    | _ => exact h.elim
  | dct ks vs => obtain ⟨kvs, h1, _⟩ := h; exact ⟨_, h1, trivial⟩
  | _ => exact h.elim
theorem RpR.pers {r : RV} (rs : RS K fa W1 ρ1 σ H1) (f : FxE K fa W1 ρ1 σ H1 W2 ρ2 H2) (h : RpR K fa W0 W1 ρ1 σ H1 r v) : RpR K fa W0 W2 ρ2 σ H2 r v := by
  cases r with
  | sh x => exact (f.stay rs).rpD h
  | fr x =>
    obtain ⟨a, e, w, n, o, r⟩ := h
    refine ⟨a, e, f.wm a w, n, fun z => o ((f.owIff a).mp z), (f.stay rs).rpO r fun u hu => f.fr a u hu o⟩
  | br j =>
    obtain ⟨e, l, x, h⟩ := h
    obtain ⟨x', h'⟩ := f.sh j l x h
    exact ⟨e, l, x', h'⟩
theorem Oc.step {r : R RV} (f : FxE C.K C.fa W ρ σ H W1 ρ1 H1) (h : Oc C W ρ σ H Q r) : Oc C W1 ρ1 σ H1 Q r := by
  cases r with
  | ok r ρ' => exact fun W' v H' g q => h W' v H' (f.trans g) (q.base f.dm)
  | ex e ρ' => exact fun c d W' H' g q => h c d W' H' (f.trans g) q
  | bad => exact h
theorem OcG.step {α : Type} {Q : α → Env → Wd → Hp → Prop} {r : R α} (f : FxE C.K C.fa W ρ σ H W1 ρ1 H1) (h : OcG C W ρ σ H Q r) : OcG C W1 ρ1 σ H1 Q r := by
  cases r with
  | ok r ρ' => exact fun W' H' g => h W' H' (f.trans g)
  | ex e ρ' => exact fun c d W' H' g q => h c d W' H' (f.trans g) q
  | bad => exact h
/-- first f, then what follows: any end -/
theorem rd_then {f : Env → R RV} {k : RV → Env → R RV} {Q' : VK} (rs : RS C.K C.fa W ρ σ H) (h : Oc C W ρ σ H Q ((f ρ).bind k))
    (hk : ∀ W1 ρ1 H1 r v, FxE C.K C.fa W ρ σ H W1 ρ1 H1 → RpR C.K C.fa (Ex_ H) W1 ρ1 σ H1 r v → Oc C W1 ρ1 σ H1 Q (k r ρ1) → Q' v H1) : rd C f σ H Q' := by
  refine ⟨W, ρ, rs, ?_⟩
  cases e : f ρ with
  | ok r ρ' =>
    rw [e] at h
    exact fun W' v H' g q => hk W' ρ' H' r v g q (Oc.step g h)
  | ex e' ρ' =>
    rw [e] at h
    exact h
  | bad =>
    rw [e] at h
    exact h
/-- .. where the end is told from the beginning -/
theorem rd_then0 {f : Env → R RV} {k : RV → Env → R RV} {Q' : VK} (rs : RS C.K C.fa W ρ σ H) (h : Oc C W ρ σ H Q ((f ρ).bind k))
    (hk : ∀ W1 ρ1 H1 r v, FxE C.K C.fa W ρ σ H W1 ρ1 H1 → RpR C.K C.fa (Ex_ H) W1 ρ1 σ H1 r v → Oc C W ρ σ H Q (k r ρ1) → Q' v H1) : rd C f σ H Q' := by
  refine ⟨W, ρ, rs, ?_⟩
  cases e : f ρ with
  | ok r ρ' =>
    rw [e] at h
    exact fun W' v H' g q => hk W' ρ' H' r v g q h
  | ex e' ρ' =>
    rw [e] at h
    exact h
  | bad =>
    rw [e] at h
    exact h
theorem rd_thenG {α : Type} {QG : α → Env → Wd → Hp → Prop} {f : Env → R RV} {k : RV → Env → R α} {Q' : VK} (rs : RS C.K C.fa W ρ σ H) (h : OcG C W ρ σ H QG ((f ρ).bind k))
    (hk : ∀ W1 ρ1 H1 r v, FxE C.K C.fa W ρ σ H W1 ρ1 H1 → RpR C.K C.fa (Ex_ H) W1 ρ1 σ H1 r v → OcG C W1 ρ1 σ H1 QG (k r ρ1) → Q' v H1) : rd C f σ H Q' := by
  refine ⟨W, ρ, rs, ?_⟩
  cases e : f ρ with
  | ok r ρ' =>
    rw [e] at h
    exact fun W' v H' g q => hk W' ρ' H' r v g q (OcG.step g h)
  | ex e' ρ' =>
    rw [e] at h
    exact h
  | bad =>
    rw [e] at h
    exact h
theorem rdT_then {f : Env → R Bool} {k : Bool → Env → R RV} {Q' : Bool → Hp → Prop} (rs : RS C.K C.fa W ρ σ H) (h : Oc C W ρ σ H Q ((f ρ).bind k))
    (hk : ∀ W1 ρ1 H1 b, FxE C.K C.fa W ρ σ H W1 ρ1 H1 → Oc C W1 ρ1 σ H1 Q (k b ρ1) → Q' b H1) : rdT C f σ H Q' := by
  refine ⟨W, ρ, rs, ?_⟩
  cases e : f ρ with
  | ok r ρ' =>
    rw [e] at h
    exact fun W' H' g => hk W' ρ' H' r g (Oc.step g h)
  | ex e' ρ' =>
    rw [e] at h
    exact h
  | bad =>
    rw [e] at h
    exact h
theorem rdT_thenG {α : Type} {QG : α → Env → Wd → Hp → Prop} {f : Env → R Bool} {k : Bool → Env → R α} {Q' : Bool → Hp → Prop} (rs : RS C.K C.fa W ρ σ H) (h : OcG C W ρ σ H QG ((f ρ).bind k))
    (hk : ∀ W1 ρ1 H1 b, FxE C.K C.fa W ρ σ H W1 ρ1 H1 → OcG C W1 ρ1 σ H1 QG (k b ρ1) → Q' b H1) : rdT C f σ H Q' := by
  refine ⟨W, ρ, rs, ?_⟩
  cases e : f ρ with
  | ok r ρ' =>
    rw [e] at h
    exact fun W' H' g => hk W' ρ' H' r g (OcG.step g h)
  | ex e' ρ' =>
    rw [e] at h
    exact h
  | bad =>
    rw [e] at h
    exact h
theorem Oc.rd {f : Env → R RV} (rs : RS C.K C.fa W ρ σ H) (h : Oc C W ρ σ H Q (f ρ)) : Mp.rd C f σ H Q := ⟨W, ρ, rs, h⟩
theorem OcG.rdT {f : Env → R Bool} {Q : Bool → Hp → Prop} (rs : RS C.K C.fa W ρ σ H) (h : OcG C W ρ σ H (fun b _ _ H' => Q b H') (f ρ)) : Mp.rdT C f σ H Q := ⟨W, ρ, rs, h⟩

/-! ### operands and results -/
theorem RpR.ro {r : RV} {x : P} (rs : RS K fa W ρ σ H) (h : RpR K fa W0 W ρ σ H r v) (e : derefP ρ r = some x) : Ro K W H x v := by
  unfold derefP at e
  cases r with
  | sh y =>
    cases y with
    | d y => cases e; exact .inl h
    | _ => cases e
  | fr y =>
    obtain ⟨a, e1, w, n, o, r⟩ := h
    cases y with
    | d y =>
      cases e
      cases x with
      | list ds =>
        obtain ⟨xs, h1, h2, h3⟩ := r
        exact .inr ⟨a, xs, ds, rfl, e1, h1, h2, h3⟩
      | _ => exact r.elim
    | _ => cases e
  | br j =>
    obtain ⟨e1, l, y, h⟩ := h
    simp only [deref, h] at e
    cases y with
    | d y =>
      cases e
      obtain ⟨a, e2, w, r⟩ := rs.own j l _ h
      rw [e1] at e2
      cases e2
      cases x with
      | list ds =>
        obtain ⟨xs, h1, h2, h3⟩ := r
        exact .inr ⟨a, xs, ds, rfl, rfl, h1, h2, h3⟩
      | _ => exact r.elim
    | _ => cases e
theorem RS.ex (rs : RS K fa W ρ σ H) (a : Addr) (w : W a) : Ex_ H a := by
  obtain ⟨o, e, _⟩ := rs.dom a w
  show H a ≠ none
  rw [e]; exact Option.some_ne_none o
theorem Dom.of (rs : RS K fa W ρ σ H) : Dom W H := rs.dom
/-- the end of an operator that gives something that is there -/
theorem Oc.fin {c : P} {H' : Hp} (rs : RS C.K C.fa W ρ σ H) (h : Oc C W ρ σ H Q (.ok (shP c) ρ)) (k : ∀ a o, H a = some o → H' a = some o) (r : Rp C.K W H' c v) : Q v H' :=
  h W v H' (FxE.grow rs k) r
theorem FxE.own {p : Addr} {xs : List V} (rs : RS K fa W ρ σ H) (n : H p = none) : FxE K fa W ρ σ H (fun a => W a ∨ a = p) ρ (upd H p (.lst xs)) := by
  have g := FxE.grow (H' := upd H p (.lst xs)) rs (grow_upd n)
  have s : Stay W H (fun a => W a ∨ a = p) (upd H p (.lst xs)) := ⟨fun a o e _ => grow_upd n a o e, fun a z => z.elim .inl fun z => .inr (by rw [z]; exact n), rs.dom⟩
  refine ⟨⟨rs.len, fun i x e => ?_, fun i l x e => ?_, rs.inj, fun a z => ?_⟩, g.fr, g.sh, g.hs, fun a z => .inl z, fun a z => z.elim .inl fun z => .inr (by rw [z]; exact n), g.dm⟩
  · obtain ⟨v, e1, r⟩ := rs.val i x e
    exact ⟨v, e1, s.rpD r⟩
  · obtain ⟨a, e1, w, r⟩ := rs.own i l x e
    exact ⟨a, e1, .inl w, s.rpO r fun o => grow_upd n a o⟩
  · rcases z with z | z
    · obtain ⟨o, e, m⟩ := rs.dom a z
      exact ⟨o, grow_upd n a o e, m⟩
    · subst z
      exact ⟨_, upd_same, trivial⟩
theorem Ow.not {a : Addr} (rs : RS K fa W ρ σ H) (n : H a = none) : ¬ Ow ρ σ a := fun z => rs.notW n (rs.owW z)
/-- .. or a new list -/
theorem Oc.finN {c : P} {H' : Hp} (rs : RS C.K C.fa W ρ σ H) (h : Oc C W ρ σ H Q (.ok (newP c) ρ)) (r : Rn C.K W H H' c v) : Q v H' := by
  cases c with
  | list ds =>
    obtain ⟨p, xs, e, n, e2, hz, ra⟩ := r
    subst e e2
    have f := FxE.own (xs := xs) rs n
    refine h _ _ _ f ⟨p, rfl, .inr rfl, fun z => z n, Ow.not rs n, xs, upd_same, hz, ?_⟩
    exact Stay.rpA ⟨fun a o e _ => grow_upd n a o e, f.wg, rs.dom⟩ ra
  | none => exact Oc.fin rs h r.1 r.2
  | bool b => exact Oc.fin rs h r.1 r.2
  | int b => exact Oc.fin rs h r.1 r.2
  | str b => exact Oc.fin rs h r.1 r.2
  | tuple b => exact Oc.fin rs h r.1 r.2
  | dict b => exact Oc.fin rs h r.1 r.2
theorem PE.mono {X : Cx} {e : Expr} {t t' : TE} (h : PE X e t) (hi : ∀ σ H Q, t' σ H Q → t σ H Q) : PE X e t' := ⟨fun pins s σ H Q I q => h.run pins s σ H Q I (hi _ _ _ q)⟩
theorem PT.mono {X : Cx} {e : Expr} {t t' : TT} (h : PT X e t) (hi : ∀ σ H Q, t' σ H Q → t σ H Q) : PT X e t' := ⟨fun pins s σ H Q I q => h.run pins s σ H Q I (hi _ _ _ q)⟩
theorem PW.mono {X : Cx} {e : Expr} {t t' : TT} (h : PW X e t) (hi : ∀ σ H Q, t' σ H Q → t σ H Q) : PW X e t' := ⟨fun w pins s σ H Q I q => h.run w pins s σ H Q I (hi _ _ _ q)⟩
theorem PA.mono {X : Cx} {e : List Expr} {t t' : TA} (h : PA X e t) (hi : ∀ σ H Q, t' σ H Q → t σ H Q) : PA X e t' := ⟨fun p pins s σ H Q I q => h.run p pins s σ H Q I (hi _ _ _ q)⟩
theorem PO.mono {X : Cx} {e : Option Expr} {t t' : TO} (h : PO X e t) (hi : ∀ σ H Q, t' σ H Q → t σ H Q) : PO X e t' := ⟨fun pins s σ H Q I q => h.run pins s σ H Q I (hi _ _ _ q)⟩
end
end Mp

set_option maxRecDepth 100000
set_option maxHeartbeats 4000000
/-! Mp5: expressions. -/
namespace Mp
open PySem PySem.Spec PyProof.Rows L2

abbrev cx (X : Cx) (fa ca : FA) (Wx : WX) : Ctx := ⟨X.K, fa, ca, Wx⟩

section
variable {C : Ctx} {W W0 W0' : Wd} {ρ : Env} {σ : L2.St} {H : Hp} {Q : VK} {v u : V}
theorem bi2_fin {f : P → P → Option P} {r s : RV} (rs : RS C.K C.fa W ρ σ H) (h : Oc C W ρ σ H Q (bi2 true f r s ρ)) (qr : RpR C.K C.fa W0 W ρ σ H r v) (qs : RpR C.K C.fa W0' W ρ σ H s u) : rOp2 C.K f v u H Q := by
  unfold bi2 at h
  cases e1 : derefP ρ r with
  | none => rw [e1] at h; exact h.elim
  | some x =>
    cases e2 : derefP ρ s with
    | none => rw [e1, e2] at h; exact h.elim
    | some y =>
      rw [e1, e2] at h
      simp only at h
      cases e3 : f x y with
      | none => rw [e3] at h; exact h.elim
      | some z =>
        rw [e3] at h
        exact ⟨W, x, y, z, rs.dom, qr.ro rs e1, qs.ro rs e2, e3, fun v H' n => Oc.finN rs h n⟩
theorem bi2s_fin {f : P → P → Option P} {r s : RV} (rs : RS C.K C.fa W ρ σ H) (h : Oc C W ρ σ H Q (bi2 false f r s ρ)) (qr : RpR C.K C.fa W0 W ρ σ H r v) (qs : RpR C.K C.fa W0' W ρ σ H s u) : rOp2s C.K f v u H Q := by
  unfold bi2 at h
  cases e1 : derefP ρ r with
  | none => rw [e1] at h; exact h.elim
  | some x =>
    cases e2 : derefP ρ s with
    | none => rw [e1, e2] at h; exact h.elim
    | some y =>
      rw [e1, e2] at h
      simp only at h
      cases e3 : f x y with
      | none => rw [e3] at h; exact h.elim
      | some z =>
        rw [e3] at h
        exact ⟨W, x, y, z, rs.dom, qr.ro rs e1, qs.ro rs e2, e3, fun v H' n => Oc.fin rs h n⟩
theorem cm2_fin {f : P → P → Option Bool} {r s : RV} (rs : RS C.K C.fa W ρ σ H) (h : Oc C W ρ σ H Q (cm2 f r s ρ)) (qr : RpR C.K C.fa W0 W ρ σ H r v) (qs : RpR C.K C.fa W0' W ρ σ H s u) : rCmp C.K f v u H Q := by
  unfold cm2 at h
  cases e1 : derefP ρ r with
  | none => rw [e1] at h; exact h.elim
  | some x =>
    cases e2 : derefP ρ s with
    | none => rw [e1, e2] at h; exact h.elim
    | some y =>
      rw [e1, e2] at h
      simp only at h
      cases e3 : f x y with
      | none => rw [e3] at h; exact h.elim
      | some z =>
        rw [e3] at h
        exact ⟨W, x, y, z, qr.ro rs e1, qs.ro rs e2, e3, Oc.fin rs h (fun _ _ e => e) (.bl z)⟩
theorem un_fin {f : P → Option P} {r : RV} (rs : RS C.K C.fa W ρ σ H) (h : Oc C W ρ σ H Q (un true f r ρ)) (qr : RpR C.K C.fa W0 W ρ σ H r v) : rOp1 C.K f v H Q := by
  unfold un at h
  cases e1 : derefP ρ r with
  | none => rw [e1] at h; exact h.elim
  | some x =>
    rw [e1] at h
    simp only at h
    cases e3 : f x with
    | none => rw [e3] at h; exact h.elim
    | some z =>
      rw [e3] at h
      exact ⟨W, x, z, rs.dom, qr.ro rs e1, e3, fun v H' n => Oc.finN rs h n⟩
theorem uns_fin {f : P → Option P} {r : RV} (rs : RS C.K C.fa W ρ σ H) (h : Oc C W ρ σ H Q (un false f r ρ)) (qr : RpR C.K C.fa W0 W ρ σ H r v) : rOp1s C.K f v H Q := by
  unfold un at h
  cases e1 : derefP ρ r with
  | none => rw [e1] at h; exact h.elim
  | some x =>
    rw [e1] at h
    simp only at h
    cases e3 : f x with
    | none => rw [e3] at h; exact h.elim
    | some z =>
      rw [e3] at h
      exact ⟨W, x, z, rs.dom, qr.ro rs e1, e3, fun v H' n => Oc.fin rs h n⟩
theorem lst_fin {r : RV} (rs : RS C.K C.fa W ρ σ H) (h : Oc C W ρ σ H Q (lstR r ρ)) (qr : RpR C.K C.fa W0 W ρ σ H r v) : rLst C.K [v] H Q := by
  unfold lstR at h
  cases e1 : deref ρ r with
  | none => rw [e1] at h; exact h.elim
  | some x =>
    rw [e1] at h
    cases x with
    | fz xs =>
      have hz : RpD C.K C.fa W H (.fz xs) v := by
        cases r with
        | sh y => cases e1; exact qr
        | fr y => cases e1; obtain ⟨a, _, _, _, _, r⟩ := qr; exact r.elim
        | br j =>
          obtain ⟨e, l, y, hy⟩ := qr
          simp only [deref, hy] at e1
          cases e1
          obtain ⟨a, _, _, r⟩ := rs.own j l _ hy
          exact r.elim
      exact ⟨v, rfl, .inr ⟨W, xs, rs.dom, hz, fun v H' n => Oc.finN (c := .list (xs.map PyData.int)) rs h n⟩⟩
    | d x =>
      simp only at h
      cases e3 : lstP x with
      | none => rw [e3] at h; exact h.elim
      | some z =>
        rw [e3] at h
        exact ⟨v, rfl, .inl ⟨W, x, z, rs.dom, qr.ro rs (by unfold derefP; rw [e1]), e3, fun v H' n => Oc.finN rs h n⟩⟩
    | _ => exact h.elim
/-- a result's truth -/
theorem tru_fin {r : RV} {QB : Bool → Env → Wd → Hp → Prop} (rs : RS C.K C.fa W ρ σ H) (h : OcG C W ρ σ H QB (truR r ρ)) (qr : RpR C.K C.fa W0 W ρ σ H r v) : ∃ k, TruV C.K v H k ∧ truR r ρ = .ok k ρ ∧ QB k ρ W H := by
  unfold truR at h ⊢
  cases e1 : deref ρ r with
  | none => rw [e1] at h; exact h.elim
  | some x =>
    rw [e1] at h
    simp only at h
    cases e3 : truD x with
    | none => rw [e3] at h; exact h.elim
    | some z =>
      rw [e3] at h
      refine ⟨z, ?_, by simp only [e3], h W H (FxE.refl rs)⟩
      cases x with
      | d x =>
        cases e3
        exact truP_ok (qr.ro rs (by unfold derefP; rw [e1]))
      | _ => cases e3
end

section
variable {X : Cx} {fa ca : FA} {Wx : WX} {a b c : Expr} {pos : Pos} {ta tb tc : Env → R RV}
theorem ex_bin (op : BOp) (ha : PE X a (rd (cx X fa ca Wx) ta)) (hb : PE X b (rd (cx X fa ca Wx) tb)) : PE X (.BinOp a op.op b pos) (rd (cx X fa ca Wx) fun ρ => (ta ρ).bind fun r ρ1 => (tb ρ1).bind fun s ρ2 => bi2 true op.f r s ρ2) := by
  refine PE.mono (pe_op (opD op) ha hb) fun σ H Q ⟨W, ρ, rs, h⟩ => ?_
  exact rd_then rs h fun W1 ρ1 H1 r v f1 q1 h1 => rd_then f1.rs h1 fun W2 ρ2 H2 s u f2 q2 h2 => bi2_fin f2.rs h2 (q1.pers f1.rs f2) q2
theorem ex_cmp (hu : Un X) (op : COp) (ha : PE X a (rd (cx X fa ca Wx) ta)) (hb : PE X b (rd (cx X fa ca Wx) tb)) (hm : behindInMarks op.op b = false) : PE X (.Compare a [op.op] [b] pos) (rd (cx X fa ca Wx) fun ρ => (ta ρ).bind fun r ρ1 => (tb ρ1).bind fun s ρ2 => cm2 op.f r s ρ2) := by
  refine PE.mono (pe_cmpR (opC hu op) ha hb hm) fun σ H Q ⟨W, ρ, rs, h⟩ => ?_
  exact rd_then rs h fun W1 ρ1 H1 r v f1 q1 h1 => rd_then f1.rs h1 fun W2 ρ2 H2 s u f2 q2 h2 => cm2_fin f2.rs h2 (q1.pers f1.rs f2) q2
theorem ex_neg (ha : PE X a (rd (cx X fa ca Wx) ta)) : PE X (.UnaryOp .USub a pos) (rd (cx X fa ca Wx) fun ρ => (ta ρ).bind fun r ρ1 => un false negP r ρ1) := by
  refine PE.mono (pe_un unD_neg ha) fun σ H Q ⟨W, ρ, rs, h⟩ => ?_
  exact rd_then rs h fun W1 ρ1 H1 r v f1 q1 h1 => uns_fin f1.rs h1 q1
theorem ex_ix (ha : PE X a (rd (cx X fa ca Wx) ta)) (hb : PE X b (rd (cx X fa ca Wx) tb)) (hs : PlainIx b) : PE X (.Subscript a b pos) (rd (cx X fa ca Wx) fun ρ => (ta ρ).bind fun r ρ1 => (tb ρ1).bind fun s ρ2 => bi2 false ixP r s ρ2) := by
  refine PE.mono (pe_ix ixD ha hb hs) fun σ H Q ⟨W, ρ, rs, h⟩ => ?_
  exact rd_then rs h fun W1 ρ1 H1 r v f1 q1 h1 => rd_then f1.rs h1 fun W2 ρ2 H2 s u f2 q2 h2 => bi2s_fin f2.rs h2 (q1.pers f1.rs f2) q2
theorem ex_rev {k : Nat} {p1 p2 p3 : Pos} (ha : PE X a (rd (cx X fa ca Wx) ta)) : PE X (.Subscript a (.Slice none none (some (.UnaryOp .USub (.Constant (.int 1) k p1) p2)) p3) pos) (rd (cx X fa ca Wx) fun ρ => (ta ρ).bind fun r ρ1 => un true revP r ρ1) := by
  refine PE.mono (pe_rev ha) fun σ H Q ⟨W, ρ, rs, h⟩ => ?_
  exact rd_then rs h fun W1 ρ1 H1 r v f1 q1 h1 => un_fin f1.rs h1 q1
theorem ex_ife {tt : Env → R Bool} (ht : PT X c (rdT (cx X fa ca Wx) tt)) (ha : PE X a (rd (cx X fa ca Wx) ta)) (hb : PE X b (rd (cx X fa ca Wx) tb)) : PE X (.IfExp c a b pos) (rd (cx X fa ca Wx) fun ρ => (tt ρ).bind fun c ρ1 => if c then ta ρ1 else tb ρ1) := by
  refine PE.mono (pe_ifExp ht ha hb) fun σ H Q ⟨W, ρ, rs, h⟩ => ?_
  refine rdT_then rs h fun W1 ρ1 H1 b f1 h1 => ?_
  cases b with
  | true => exact Oc.rd f1.rs h1
  | false => exact Oc.rd f1.rs h1
theorem ex_const_none {k} : PE X (.Constant .none k pos) (rd (cx X fa ca Wx) fun ρ => .ok (shP .none) ρ) :=
  PE.mono pe_non fun σ H Q ⟨W, ρ, rs, h⟩ => Oc.fin rs h (fun _ _ e => e) .non
theorem ex_const_bool {k} (b : Bool) : PE X (.Constant (.bool b) k pos) (rd (cx X fa ca Wx) fun ρ => .ok (shP (.bool b)) ρ) :=
  PE.mono pe_bl fun σ H Q ⟨W, ρ, rs, h⟩ => Oc.fin rs h (fun _ _ e => e) (.bl b)
theorem ex_const_int {k} (b : Int) : PE X (.Constant (.int b) k pos) (rd (cx X fa ca Wx) fun ρ => .ok (shP (.int b)) ρ) :=
  PE.mono pe_int fun σ H Q ⟨W, ρ, rs, h⟩ => Oc.fin rs h (fun _ _ e => e) (.int b)
theorem ex_const_str {k} (b : Str) (h1 : PyData.strOk b = true) (h2 : b.length ≤ 16777216) : PE X (.Constant (.str b) k pos) (rd (cx X fa ca Wx) fun ρ => .ok (shP (.str b)) ρ) :=
  PE.mono pe_str fun σ H Q ⟨W, ρ, rs, h⟩ => Oc.fin rs h (fun _ _ e => e) (.str b h1 (line_le h2))
theorem ex_var (i : Nat) {x : Str} (hN : X.N[i]? = some x) (hv : Vis X.env.scope x) (hd : (x == ("__debug__" : Str)) = false) (hcd : (x == ("__classdict__" : Str)) = false) : PE X (.Name x pos) (rd (cx X fa ca Wx) (varE i)) := by
  refine PE.mono (pe_var hN hv hd hcd) fun σ H Q ⟨W, ρ, rs, h⟩ => ?_
  unfold varE at h
  cases e : ρ[i]? with
  | none => rw [e] at h; exact h.elim
  | some s =>
    rw [e] at h
    cases s with
    | un => exact h.elim
    | val y =>
      obtain ⟨v, e1, r⟩ := rs.val i y e
      exact ⟨v, e1, h W v H (FxE.refl rs) r⟩
    | own l y =>
      obtain ⟨a, e1, w, r⟩ := rs.own i l y e
      exact ⟨.ref a, e1, h W _ H (FxE.refl rs) ⟨e1, l, y, e⟩⟩
/-! truth -/
theorem et_of_val (he : ∀ whole, isTrue a X.env whole = (do let v ← whole; standAt a.pos; holding [v] (truthy v))) (ha : PE X a (rd (cx X fa ca Wx) ta)) : PT X a (rdT (cx X fa ca Wx) fun ρ => (ta ρ).bind truR) := by
  refine PT.mono (pt_truth ha he) fun σ H Q ⟨W, ρ, rs, h⟩ => ?_
  refine rd_thenG rs h fun W1 ρ1 H1 r v f1 q1 h1 => ?_
  obtain ⟨k, t, _, q⟩ := tru_fin f1.rs h1 q1
  exact ⟨k, t, q⟩
theorem et_cmp (hu : Un X) (op : COp) (ha : PE X a (rd (cx X fa ca Wx) ta)) (hb : PE X b (rd (cx X fa ca Wx) tb)) (hm : behindInMarks op.op b = false) : PT X (.Compare a [op.op] [b] pos) (rdT (cx X fa ca Wx) fun ρ => ((ta ρ).bind fun r ρ1 => (tb ρ1).bind fun s ρ2 => cm2 op.f r s ρ2).bind truR) := by
  refine PT.mono (pt_cmpR (opC hu op) ha hb hm) fun σ H Q ⟨W, ρ, rs, h⟩ => ?_
  have e : ((ta ρ).bind fun r ρ1 => (tb ρ1).bind fun s ρ2 => cm2 op.f r s ρ2).bind truR = (ta ρ).bind fun r ρ1 => (tb ρ1).bind fun s ρ2 => (cm2 op.f r s ρ2).bind truR := by
    cases ta ρ with
    | ok r ρ1 => simp only [R.bind]; cases tb ρ1 <;> rfl
    | _ => rfl
  have h : OcG (cx X fa ca Wx) W ρ σ H (fun b _ _ H' => Q b H') (((ta ρ).bind fun r ρ1 => (tb ρ1).bind fun s ρ2 => cm2 op.f r s ρ2).bind truR) := h
  rw [e] at h
  refine rd_thenG rs h fun W1 ρ1 H1 r v f1 q1 h1 => rd_thenG f1.rs h1 fun W2 ρ2 H2 s u f2 q2 h2 => ?_
  have q1' := q1.pers f1.rs f2
  unfold cm2 at h2
  cases e1 : derefP ρ2 r with
  | none => rw [e1] at h2; exact h2.elim
  | some x =>
    cases e2 : derefP ρ2 s with
    | none => rw [e1, e2] at h2; exact h2.elim
    | some y =>
      rw [e1, e2] at h2
      simp only at h2
      cases e3 : op.f x y with
      | none => rw [e3] at h2; exact h2.elim
      | some z =>
        rw [e3] at h2
        refine ⟨W2, x, y, z, q1'.ro f2.rs e1, q2.ro f2.rs e2, e3, z, rfl, ?_⟩
        exact h2 W2 H2 (FxE.refl f2.rs)
theorem et_not {tt : Env → R Bool} (ht : PT X a (rdT (cx X fa ca Wx) tt)) : PT X (.UnaryOp .Not a pos) (rdT (cx X fa ca Wx) fun ρ => (tt ρ).bind fun b ρ1 => .ok (!b) ρ1) := by
  refine PT.mono (pt_not ht) fun σ H Q ⟨W, ρ, rs, h⟩ => ?_
  refine rdT_thenG rs h fun W1 ρ1 H1 b f1 h1 => ?_
  exact h1 W1 H1 (FxE.refl f1.rs)
theorem ex_not (ha : PE X a (rd (cx X fa ca Wx) ta)) : PE X (.UnaryOp .Not a pos) (rd (cx X fa ca Wx) fun ρ => ((ta ρ).bind truR).bind fun b ρ1 => .ok (shP (.bool (!b))) ρ1) := by
  refine PE.mono (pe_notT ha) fun σ H Q ⟨W, ρ, rs, h⟩ => ?_
  have h : Oc (cx X fa ca Wx) W ρ σ H Q (((ta ρ).bind truR).bind fun b ρ1 => .ok (shP (.bool (!b))) ρ1) := h
  have e : ((ta ρ).bind truR).bind (fun b ρ1 => (R.ok (shP (.bool (!b))) ρ1 : R RV)) = (ta ρ).bind fun r ρ1 => (truR r ρ1).bind fun b ρ1 => .ok (shP (.bool (!b))) ρ1 := by
    cases ta ρ <;> rfl
  rw [e] at h
  refine rd_then rs h fun W1 ρ1 H1 r v f1 q1 h1 => ?_
  cases e1 : truR r ρ1 with
  | ok k ρ2 =>
    rw [e1] at h1
    obtain ⟨k', t, e2, _⟩ := tru_fin (QB := fun _ _ _ _ => True) f1.rs (by rw [e1]; exact fun _ _ _ => trivial) q1
    rw [e1] at e2
    cases e2
    exact ⟨k, t, Oc.fin f1.rs h1 (fun _ _ e => e) (.bl _)⟩
  | ex e ρ2 =>
    unfold truR at e1
    cases e2 : deref ρ1 r with
    | none => rw [e2] at e1; cases e1
    | some x =>
      rw [e2] at e1
      simp only at e1
      cases e3 : truD x with
      | none => rw [e3] at e1; cases e1
      | some z => rw [e3] at e1; cases e1
  | bad => rw [e1] at h1; exact h1.elim
end
end Mp

set_option maxRecDepth 100000
set_option maxHeartbeats 4000000
/-! Mp6: and, or, chains, displays, arguments, calls of built-ins. -/
namespace Mp
open PySem PySem.Spec PyProof.Rows L2

/-- no star, no slice, no set -/
def plainE : Expr → Bool
  | .Starred .. => false
  | .Slice .. => false
  | .Set .. => false
  | _ => true
theorem plain_star {e : Expr} (h : plainE e = true) (es : List Expr) (env : PySem.Env) : starEach (e :: es) env = (false, eval e env) :: starEach es env := by
  cases e <;> first | rfl | cases h
theorem plain_ix {e : Expr} (h : plainE e = true) : PlainIx e := by
  cases e <;> first | exact fun _ _ => rfl | cases h
theorem plain_mark {e : Expr} (h : plainE e = true) (op : CmpOp) : behindInMarks op e = false := by
  cases e <;> first | rfl | cases h
theorem plain_fold {e : Expr} (h : plainE e = true) (env : PySem.Env) (x : Value) : foldedSetIterable e env x = pure x := by
  cases e <;> first | rfl | cases h

structure Der (X : Cx) (fa ca : FA) (Wx : WX) (e : Expr) (p : Pr) : Prop where
  v : PE X e (rd (cx X fa ca Wx) p.v)
  t : PT X e (rdT (cx X fa ca Wx) p.t)
  co : ∀ ρ, p.t ρ = (p.v ρ).bind truR
  sy : plainE e = true

theorem bind_assoc {α β γ : Type} (x : R α) (f : α → Env → R β) (g : β → Env → R γ) : (x.bind f).bind g = x.bind fun a ρ => (f a ρ).bind g := by
  cases x <;> rfl
theorem truR_twice (r : RV) (ρ : Env) (b : Bool) (ρ' : Env) (h : truR r ρ = .ok b ρ') : ρ' = ρ := by
  unfold truR at h
  cases e2 : deref ρ r with
  | none => rw [e2] at h; cases h
  | some x =>
    rw [e2] at h
    simp only at h
    cases e3 : truD x with
    | none => rw [e3] at h; cases h
    | some z => rw [e3] at h; cases h; rfl
theorem truR_noex (r : RV) (ρ : Env) (e : Ex) (ρ' : Env) : truR r ρ ≠ .ex e ρ' := by
  intro h
  unfold truR at h
  cases e2 : deref ρ r with
  | none => rw [e2] at h; cases h
  | some x =>
    rw [e2] at h
    simp only at h
    cases e3 : truD x with
    | none => rw [e3] at h; cases h
    | some z => rw [e3] at h; cases h
theorem truR_shP (b : Bool) (ρ : Env) : truR (shP (.bool b)) ρ = .ok b ρ := rfl

section
variable {X : Cx} {fa ca : FA} {Wx : WX} {a b c : Expr} {pos : Pos}
/-! ### and, or -/
theorem co_bop (isOr : Bool) : ∀ (es : List Expr) (ps : List Pr), Paired (Der X fa ca Wx) es ps → ∀ ρ, etB isOr ps ρ = (evB isOr ps ρ).bind truR
  | _, [], _, ρ => rfl
  | _, [p], .cons d .nil, ρ => d.co ρ
  | _, p :: q :: ps, .cons d ds, ρ => by
    have ih := co_bop isOr _ (q :: ps) ds
    show (p.t ρ).bind (fun b ρ1 => if b == isOr then .ok b ρ1 else etB isOr (q :: ps) ρ1) = (((p.v ρ).bind fun r ρ1 => (truR r ρ1).bind fun b ρ2 => if b == isOr then .ok r ρ2 else evB isOr (q :: ps) ρ2)).bind truR
    rw [d.co ρ, bind_assoc, bind_assoc]
    cases p.v ρ with
    | ok r ρ1 =>
      simp only [R.bind]
      cases e : truR r ρ1 with
      | ok b ρ2 =>
        have := truR_twice r ρ1 b ρ2 e
        subst this
        simp only
        by_cases hb : (b == isOr) = true
        · rw [if_pos hb, if_pos hb]
          simp only
          rw [e]
        · rw [if_neg hb, if_neg hb]
          exact ih ρ2
      | ex => rfl
      | bad => rfl
    | ex => rfl
    | bad => rfl
def bopE (isOr : Bool) : BoolOp := if isOr then .Or else .And
theorem ex_bop (isOr : Bool) : ∀ (es : List Expr) (ps : List Pr), es ≠ [] → Paired (Der X fa ca Wx) es ps → PE X (.BoolOp (bopE isOr) es pos) (rd (cx X fa ca Wx) (evB isOr ps))
  | _, _, h, .nil => absurd rfl h
  | [e], [p], _, .cons d .nil => pe_one d.v
  | e :: e' :: es, p :: q :: ps, _, .cons d ds => by
    have ih := ex_bop isOr (e' :: es) (q :: ps) (by simp) ds
    have go : ∀ {Q : VK} {W : Wd} {ρ : Env} {σ : L2.St} {H : Hp} {W1 ρ1 H1 r v}, FxE X.K fa W ρ σ H W1 ρ1 H1 → RpR X.K fa (Ex_ H) W1 ρ1 σ H1 r v →
        Oc (cx X fa ca Wx) W ρ σ H Q ((truR r ρ1).bind fun b ρ2 => if b == isOr then .ok r ρ2 else evB isOr (q :: ps) ρ2) →
        ∃ k, TruV X.K v H1 k ∧ (if k == isOr then Q v H1 else rd (cx X fa ca Wx) (evB isOr (q :: ps)) σ H1 Q) := by
      intro Q W ρ σ H W1 ρ1 H1 r v f1 q1 h1
      cases e1 : truR r ρ1 with
      | ok k ρ2 =>
        rw [e1] at h1
        obtain ⟨k', t, e2, _⟩ := tru_fin (C := cx X fa ca Wx) (QB := fun _ _ _ _ => True) f1.rs (by rw [e1]; exact fun _ _ _ => trivial) q1
        rw [e1] at e2
        cases e2
        refine ⟨k, t, ?_⟩
        have h1 : Oc (cx X fa ca Wx) W ρ σ H Q (if k == isOr then .ok r ρ1 else evB isOr (q :: ps) ρ1) := h1
        by_cases hb : (k == isOr) = true
        · rw [if_pos hb] at h1 ⊢
          exact h1 W1 v H1 f1 q1
        · rw [if_neg hb] at h1 ⊢
          exact Oc.rd f1.rs (h1.step f1)
      | ex e ρ2 => exact absurd e1 (truR_noex _ _ _ _)
      | bad => rw [e1] at h1; exact h1.elim
    cases isOr with
    | true =>
      refine PE.mono (pe_orT d.v ih) fun σ H Q ⟨W, ρ, rs, h⟩ => ?_
      refine rd_then0 rs h fun W1 ρ1 H1 r v f1 q1 h1 => ?_
      obtain ⟨k, t, q⟩ := go f1 q1 h1
      refine ⟨k, t, ?_⟩
      cases k with
      | true => exact q
      | false => exact q
    | false =>
      refine PE.mono (pe_andT d.v ih) fun σ H Q ⟨W, ρ, rs, h⟩ => ?_
      refine rd_then0 rs h fun W1 ρ1 H1 r v f1 q1 h1 => ?_
      obtain ⟨k, t, q⟩ := go f1 q1 h1
      refine ⟨k, t, ?_⟩
      cases k with
      | true => exact q
      | false => exact q
theorem pw_bop (isOr : Bool) : ∀ (es : List Expr) (ps : List Pr), es ≠ [] → Paired (Der X fa ca Wx) es ps → PW X (.BoolOp (bopE isOr) es pos) (rdT (cx X fa ca Wx) (etB isOr ps))
  | _, _, h, .nil => absurd rfl h
  | [e], [p], _, .cons d .nil => by
    cases isOr with
    | true => exact pw_or1 d.t
    | false => exact pw_and1 d.t
  | e :: e' :: es, p :: q :: ps, _, .cons d ds => by
    have ih := pw_bop isOr (e' :: es) (q :: ps) (by simp) ds
    cases isOr with
    | true =>
      refine PW.mono (pw_or d.t ih) fun σ H Q ⟨W, ρ, rs, h⟩ => ?_
      refine rdT_thenG rs h fun W1 ρ1 H1 b f1 h1 => ?_
      cases b with
      | true => exact h1 W1 H1 (FxE.refl f1.rs)
      | false => exact OcG.rdT f1.rs h1
    | false =>
      refine PW.mono (pw_and d.t ih) fun σ H Q ⟨W, ρ, rs, h⟩ => ?_
      refine rdT_thenG rs h fun W1 ρ1 H1 b f1 h1 => ?_
      cases b with
      | true => exact OcG.rdT f1.rs h1
      | false => exact h1 W1 H1 (FxE.refl f1.rs)
theorem der_bop (isOr : Bool) {es : List Expr} {ps : List Pr} (hn : es ≠ []) (h : Paired (Der X fa ca Wx) es ps) : Der X fa ca Wx (.BoolOp (bopE isOr) es pos) ⟨evB isOr ps, etB isOr ps⟩ :=
  ⟨ex_bop isOr es ps hn h, (pw_bop isOr es ps hn h).pt, co_bop isOr es ps h, rfl⟩

/-! ### chains -/
theorem ex_chain (hu : Un X) (op op' : COp) {ta tb tc : Env → R RV} (ha : PE X a (rd (cx X fa ca Wx) ta)) (hb : PE X b (rd (cx X fa ca Wx) tb)) (hc : PE X c (rd (cx X fa ca Wx) tc)) (hm : plainE c = true) :
    PE X (.Compare a [op.op, op'.op] [b, c] pos) (rd (cx X fa ca Wx) (chainE op op' ta tb tc)) := by
  refine PE.mono (pe_chain (opC hu op) (opC hu op') ha hb hc (plain_mark hm _)) fun σ H Q ⟨W, ρ, rs, h⟩ => ?_
  refine rd_then rs h fun W1 ρ1 H1 r v f1 q1 h1 => rd_then f1.rs h1 fun W2 ρ2 H2 s u f2 q2 h2 => ?_
  have q1' := q1.pers f1.rs f2
  unfold cm2 at h2
  cases e1 : derefP ρ2 r with
  | none => rw [e1] at h2; exact h2.elim
  | some x =>
    cases e2 : derefP ρ2 s with
    | none => rw [e1, e2] at h2; exact h2.elim
    | some y =>
      rw [e1, e2] at h2
      simp only at h2
      cases e3 : op.f x y with
      | none => rw [e3] at h2; exact h2.elim
      | some z =>
        rw [e3] at h2
        refine ⟨W2, x, y, z, q1'.ro f2.rs e1, q2.ro f2.rs e2, e3, z, rfl, ?_⟩
        have h2 : Oc (cx X fa ca Wx) W2 ρ2 σ H2 Q (if z = true then (tc ρ2).bind fun u ρ5 => cm2 op'.f s u ρ5 else .ok (shP (.bool false)) ρ2) := h2
        cases z with
        | true =>
          rw [if_pos rfl] at h2 ⊢
          exact rd_then f2.rs h2 fun W3 ρ3 H3 t w f3 q3 h3 => cm2_fin f3.rs h3 (q2.pers f2.rs f3) q3
        | false =>
          rw [if_neg Bool.false_ne_true] at h2 ⊢
          exact Oc.fin f2.rs h2 (fun _ _ e => e) (.bl _)
theorem et_chain (hu : Un X) (op op' : COp) {ta tb tc : Env → R RV} (ha : PE X a (rd (cx X fa ca Wx) ta)) (hb : PE X b (rd (cx X fa ca Wx) tb)) (hc : PE X c (rd (cx X fa ca Wx) tc)) (hm : plainE c = true) :
    PT X (.Compare a [op.op, op'.op] [b, c] pos) (rdT (cx X fa ca Wx) fun ρ => (chainE op op' ta tb tc ρ).bind truR) := by
  refine PT.mono (pt_chain (opC hu op) (opC hu op') ha hb hc (plain_mark hm _)) fun σ H Q ⟨W, ρ, rs, h⟩ => ?_
  have h : OcG (cx X fa ca Wx) W ρ σ H (fun b _ _ H' => Q b H') ((chainE op op' ta tb tc ρ).bind truR) := h
  unfold chainE at h
  rw [bind_assoc] at h
  refine rd_thenG rs h fun W1 ρ1 H1 r v f1 q1 h1 => ?_
  rw [bind_assoc] at h1
  refine rd_thenG f1.rs h1 fun W2 ρ2 H2 s u f2 q2 h2 => ?_
  have q1' := q1.pers f1.rs f2
  unfold cm2 at h2
  cases e1 : derefP ρ2 r with
  | none => rw [e1] at h2; exact h2.elim
  | some x =>
    cases e2 : derefP ρ2 s with
    | none => rw [e1, e2] at h2; exact h2.elim
    | some y =>
      rw [e1, e2] at h2
      simp only at h2
      cases e3 : op.f x y with
      | none => rw [e3] at h2; exact h2.elim
      | some z =>
        rw [e3] at h2
        refine ⟨W2, x, y, z, q1'.ro f2.rs e1, q2.ro f2.rs e2, e3, z, rfl, ?_⟩
        have h2 : OcG (cx X fa ca Wx) W2 ρ2 σ H2 (fun b _ _ H' => Q b H') ((if z = true then (tc ρ2).bind fun u ρ5 => cm2 op'.f s u ρ5 else .ok (shP (.bool false)) ρ2).bind truR) := h2
        cases z with
        | true =>
          rw [if_pos rfl] at h2 ⊢
          rw [bind_assoc] at h2
          refine rd_thenG f2.rs h2 fun W3 ρ3 H3 t w f3 q3 h3 => ?_
          have q2' := q2.pers f2.rs f3
          unfold cm2 at h3
          cases e1 : derefP ρ3 s with
          | none => rw [e1] at h3; exact h3.elim
          | some x =>
            cases e2 : derefP ρ3 t with
            | none => rw [e1, e2] at h3; exact h3.elim
            | some y =>
              rw [e1, e2] at h3
              simp only at h3
              cases e3 : op'.f x y with
              | none => rw [e3] at h3; exact h3.elim
              | some z =>
                rw [e3] at h3
                exact ⟨W3, x, y, z, q2'.ro f3.rs e1, q3.ro f3.rs e2, e3, z, rfl, h3 W3 H3 (FxE.refl f3.rs)⟩
        | false =>
          rw [if_neg Bool.false_ne_true] at h2 ⊢
          exact ⟨false, rfl, h2 W2 H2 (FxE.refl f2.rs)⟩

/-! ### lists of expressions -/
/-- where the fresh ones stand -/
def frV : List RV → List V → List V
  | .fr _ :: rs, v :: vs => v :: frV rs vs
  | _ :: rs, _ :: vs => frV rs vs
  | _, _ => []
inductive RpRs (K : PySem.W.Frag) (fa : FA) (W0 W : Wd) (ρ : Env) (σ : L2.St) (H : Hp) : List RV → List V → Prop
  | nil : RpRs K fa W0 W ρ σ H [] []
  | cons {r v rs vs} : RpR K fa W0 W ρ σ H r v → (∀ x, r = .fr x → v ∉ frV rs vs) → RpRs K fa W0 W ρ σ H rs vs → RpRs K fa W0 W ρ σ H (r :: rs) (v :: vs)
def OcA (C : Ctx) (W : Wd) (ρ : Env) (σ : L2.St) (H : Hp) (Q : List RV → Env → Wd → List V → Hp → Prop) : R (List RV) → Prop
  | .ok r ρ' => ∀ W' v H', FxE C.K C.fa W ρ σ H W' ρ' H' → RpRs C.K C.fa (Ex_ H) W' ρ' σ H' r v → Q r ρ' W' v H'
  | .ex e ρ' => ∀ c d W' H', FxE C.K C.fa W ρ σ H W' ρ' H' → RpX C.ca e c d H' → C.Wx c d σ H'
  | .bad => False
def rdA (C : Ctx) (f : Env → R (List RV)) : TA := fun σ H Q => ∃ W ρ, RS C.K C.fa W ρ σ H ∧ OcA C W ρ σ H (fun _ _ _ v H' => Q v H') (f ρ)
theorem RpRs.base {K : PySem.W.Frag} {W0 W1 W : Wd} {ρ : Env} {σ : L2.St} {H : Hp} {rs : List RV} {vs : List V} (m : ∀ a, W0 a → W1 a) (h : RpRs K fa W1 W ρ σ H rs vs) : RpRs K fa W0 W ρ σ H rs vs := by
  induction h with
  | nil => exact .nil
  | cons h d _ ih => exact .cons (h.base m) d ih
theorem RpRs.pers {K : PySem.W.Frag} {W0 W1 W2 : Wd} {ρ1 ρ2 : Env} {σ : L2.St} {H1 H2 : Hp} {rs : List RV} {vs : List V} (r : RS K fa W1 ρ1 σ H1) (f : FxE K fa W1 ρ1 σ H1 W2 ρ2 H2) (h : RpRs K fa W0 W1 ρ1 σ H1 rs vs) : RpRs K fa W0 W2 ρ2 σ H2 rs vs := by
  induction h with
  | nil => exact .nil
  | cons h d _ ih => exact .cons (h.pers r f) d ih
/-- data of results: fresh objects are given away -/
theorem RpRs.datas {K : PySem.W.Frag} {W0 W : Wd} {ρ : Env} {σ : L2.St} {H : Hp} : ∀ {rs : List RV} {vs : List V} {ds : List P}, RpRs K fa W0 W ρ σ H rs vs → Mp.datas rs = some ds →
    ∀ {W'' : Wd}, (∀ a, W'' a → W a) → (∀ a, W'' a → W0 a) → (∀ a, W a → ∃ o, H a = some o ∧ Mut (some o)) → RpA K W'' H ds vs
  | _, _, _, .nil, e, W'', _, _, _ => by cases e; exact .nil
  | _, _, _, .cons (r := r) h _ t, e, W'', m, m0, dm => by
    have sub : ∀ {d : P} {v : V}, Rp K W H d v → Rp K W'' H d v := fun q => Stay.rp ⟨fun _ _ e _ => e, fun a z => .inl (m a z), dm⟩ q
    cases r with
    | sh x =>
      cases x with
      | d x =>
        simp only [Mp.datas, Option.map_eq_some_iff] at e
        obtain ⟨ds, e1, e2⟩ := e
        subst e2
        exact .cons (sub h) (RpRs.datas t e1 m m0 dm)
      | _ => cases e
    | fr x =>
      cases x with
      | d x =>
        simp only [Mp.datas, Option.map_eq_some_iff] at e
        obtain ⟨ds, e1, e2⟩ := e
        subst e2
        refine .cons ?_ (RpRs.datas t e1 m m0 dm)
        obtain ⟨a, ea, w, n, o, r⟩ := h
        cases x with
        | list ds =>
          obtain ⟨xs, h1, h2, h3⟩ := r
          subst ea
          exact .lst h1 (fun z => n (m0 a z)) h2 (Stay.rpA ⟨fun _ _ e _ => e, fun a z => .inl (m a z), dm⟩ h3)
        | _ => exact r.elim
      | _ => cases e
    | br j => cases e
theorem RpRs.length {K : PySem.W.Frag} {W0 W : Wd} {ρ : Env} {σ : L2.St} {H : Hp} {rs : List RV} {vs : List V} (h : RpRs K fa W0 W ρ σ H rs vs) : rs.length = vs.length := by
  induction h with
  | nil => rfl
  | cons _ _ _ ih => simp [ih]
theorem RpRs.newV {K : PySem.W.Frag} {W W1 : Wd} {ρ : Env} {σ : L2.St} {H H1 : Hp} {rs : List RV} {vs : List V} {x : D} {a : Addr} (h : RpRs K fa (Ex_ H1) W ρ σ H rs vs) (r : RpO K W1 H1 x a) : V.ref a ∉ frV rs vs := by
  induction h with
  | nil => intro z; unfold frV at z; cases z
  | @cons r' v rs vs h d t ih =>
    cases r' with
    | sh y => unfold frV; exact ih
    | br y => unfold frV; exact ih
    | fr y =>
      unfold frV
      intro z
      rcases List.mem_cons.mp z with z | z
      · obtain ⟨b, eb, _, n, _⟩ := h
        rw [eb] at z
        cases z
        obtain ⟨o, eo, _⟩ := r.there
        exact n (by show H1 a ≠ none; rw [eo]; exact Option.some_ne_none o)
      · exact ih z
/-- an argument list -/
theorem pa_all : ∀ (es : List Expr) (ps : List Pr), Paired (Der X fa ca Wx) es ps → PA X es (rdA (cx X fa ca Wx) (evsL ps))
  | _, _, .nil => PA.mono pa_nil fun σ H Q ⟨W, ρ, rs, h⟩ => h W [] H (FxE.refl rs) .nil
  | e :: es, p :: ps, .cons d ds => by
    refine PA.mono (pa_cons d.v (pa_all es ps ds) (plain_star d.sy es _)) fun σ H Q ⟨W, ρ, rs, h⟩ => ?_
    refine ⟨W, ρ, rs, ?_⟩
    have h : OcA (cx X fa ca Wx) W ρ σ H (fun _ _ _ v H' => Q v H') ((p.v ρ).bind fun r ρ1 => (evsL ps ρ1).bind fun rs ρ2 => .ok (r :: rs) ρ2) := h
    cases e1 : p.v ρ with
    | ok r ρ1 =>
      rw [e1] at h
      refine fun W1 v H1 f1 q1 => ⟨W1, ρ1, f1.rs, ?_⟩
      have h : OcA (cx X fa ca Wx) W ρ σ H (fun _ _ _ v H' => Q v H') ((evsL ps ρ1).bind fun rs ρ2 => .ok (r :: rs) ρ2) := h
      cases e2 : evsL ps ρ1 with
      | ok rs2 ρ2 =>
        rw [e2] at h
        exact fun W2 vs H2 f2 q2 => h W2 _ H2 (f1.trans f2) (.cons (q1.pers f1.rs f2) (fun x ex => by
          subst ex
          obtain ⟨a, ea, _, _, _, r⟩ := q1
          subst ea
          exact q2.newV r) (q2.base f1.dm))
      | ex e ρ2 =>
        rw [e2] at h
        exact fun c d W2 H2 f2 q => h c d W2 H2 (f1.trans f2) q
      | bad => rw [e2] at h; exact h
    | ex e ρ1 => rw [e1] at h; exact h
    | bad => rw [e1] at h; exact h
end
end Mp

set_option maxRecDepth 100000
set_option maxHeartbeats 4000000
/-! Mp7: displays, slices, calls. -/
namespace Mp
open PySem PySem.Spec PyProof.Rows L2

theorem star_all {env : PySem.Env} (pos : Pos) : ∀ {es : List Expr}, (es.all plainE = true) → (backTo pos (starEach es env)).any (·.1) = false
  | [], _ => rfl
  | e :: es, h => by
    rw [List.all_cons, Bool.and_eq_true] at h
    rw [plain_star h.1]
    have ih := star_all (env := env) pos h.2
    show (false || (backTo pos (starEach es env)).any (·.1)) = false
    rw [ih]; rfl
theorem paired_plain {X : Cx} {fa ca : FA} {Wx : WX} : ∀ {es : List Expr} {ps : List Pr}, Paired (Der X fa ca Wx) es ps → es.all plainE = true
  | _, _, .nil => rfl
  | _, _, .cons d ds => by rw [List.all_cons, d.sy, paired_plain ds]; rfl

section
variable {K : PySem.W.Frag} {fa : FA} {W W0 W1 W2 : Wd} {ρ ρ0 ρ1 ρ2 : Env} {σ : L2.St} {H H0 H1 H2 : Hp} {Q : VK} {v : V}
/-- what is new along the way is let go -/
theorem FxE.shrink (rs : RS K fa W ρ σ H) (f : FxE K fa W ρ σ H W1 ρ1 H1) : FxE K fa W ρ σ H W ρ1 H1 := by
  have s : Stay W1 H1 W H1 := ⟨fun _ _ e _ => e, fun a z => .inl (f.wm a z), f.rs.dom⟩
  refine ⟨⟨f.rs.len, fun i x e => ?_, fun i l x e => ?_, f.rs.inj, fun a z => f.rs.dom a (f.wm a z)⟩, f.fr, f.sh, f.hs, fun _ z => z, fun _ z => .inl z, f.dm⟩
  · obtain ⟨v, e1, r⟩ := f.rs.val i x e
    exact ⟨v, e1, s.rpD r⟩
  · obtain ⟨a, e1, w, r⟩ := f.rs.own i l x e
    exact ⟨a, e1, rs.owW ((f.owIff a).mp ⟨i, l, x, e, e1⟩), s.rpO r fun _ e => e⟩
theorem Stay.shrink (rs : RS K fa W ρ σ H) (f : FxE K fa W ρ σ H W1 ρ1 H1) : Stay W1 H1 W H1 := ⟨fun _ _ e _ => e, fun a z => .inl (f.wm a z), f.rs.dom⟩
end

section
variable {X : Cx} {fa ca : FA} {Wx : WX} {a b c : Expr} {pos : Pos}
theorem rdA_then {C : Ctx} {W : Wd} {ρ : Env} {σ : L2.St} {H : Hp} {Q : VK} {f : Env → R (List RV)} {k : List RV → Env → R RV} {Q' : List V → Hp → Prop} (rs : RS C.K C.fa W ρ σ H) (h : Oc C W ρ σ H Q ((f ρ).bind k))
    (hk : ∀ W1 ρ1 H1 rv vs, FxE C.K C.fa W ρ σ H W1 ρ1 H1 → RpRs C.K C.fa (Ex_ H) W1 ρ1 σ H1 rv vs → Oc C W ρ σ H Q (k rv ρ1) → Q' vs H1) : rdA C f σ H Q' := by
  refine ⟨W, ρ, rs, ?_⟩
  cases e : f ρ with
  | ok r ρ' =>
    rw [e] at h
    exact fun W' v H' g q => hk W' ρ' H' r v g q h
  | ex e' ρ' =>
    rw [e] at h
    exact h
  | bad =>
    rw [e] at h
    exact h
theorem fns_rp {C : Ctx} {W0 W : Wd} {ρ : Env} {σ : L2.St} {H : Hp} : ∀ {rs : List RV} {vs : List V} {is : List Nat}, RpRs C.K C.fa W0 W ρ σ H rs vs → fnsOf rs = some is → vs = is.map fun i => V.ref (C.fa i)
  | _, _, _, .nil, e => by cases e; rfl
  | _, _, _, .cons (r := r) h _ t, e => by
    cases r with
    | sh x =>
      cases x with
      | fn i =>
        simp only [fnsOf, Option.map_eq_some_iff] at e
        obtain ⟨is, e1, e2⟩ := e
        subst e2
        rw [fns_rp t e1, show _ = V.ref (C.fa i) from h]; rfl
      | _ => cases e
    | _ => cases e
theorem ex_tup {k : Nat} {es : List Expr} {ps : List Pr} (h : Paired (Der X fa ca Wx) es ps) : PE X (.Tuple es k pos) (rd (cx X fa ca Wx) fun ρ => (evsL ps ρ).bind tupE) := by
  refine PE.mono (pe_tup (pa_all es ps h)) fun σ H Q ⟨W, ρ, rs, h⟩ => ?_
  refine rdA_then rs h fun W1 ρ1 H1 rv vs f1 q1 h1 => ?_
  have hl := q1.length
  unfold tupE at h1
  split at h1
  · rename_i hz
    refine ⟨line_le (by omega), fun p n => ?_⟩
    have fS := FxE.shrink rs f1
    have g := FxE.grow (H' := upd H1 p (.tup vs)) fS.rs (grow_upd n)
    cases e : datas rv with
    | some xs =>
      rw [e] at h1
      have ra : RpA X.K W H1 xs vs := q1.datas e f1.wm rs.ex f1.rs.dom
      exact h1 W _ _ (fS.trans g) (rp_newTup fS.rs.dom ra (line_le (by omega)) n).2
    | none =>
      rw [e] at h1
      simp only at h1
      cases e2 : fnsOf rv with
      | some is =>
        rw [e2] at h1
        have ev := fns_rp (C := cx X fa ca Wx) q1 e2
        refine h1 W _ _ (fS.trans g) ⟨p, rfl, ?_, ?_⟩
        · rw [← ev]; exact .inl (.inl upd_same)
        · have : is.length = vs.length := by rw [ev, List.length_map]
          exact line_le (by omega)
      | none => rw [e2] at h1; exact h1.elim
  · exact h1.elim
theorem ex_lst {es : List Expr} {ps : List Pr} (h : Paired (Der X fa ca Wx) es ps) : PE X (.List es pos) (rd (cx X fa ca Wx) fun ρ => (evsL ps ρ).bind lstE) := by
  refine PE.mono (pe_lst (pa_all es ps h)) fun σ H Q ⟨W, ρ, rs, h⟩ => ?_
  refine rdA_then rs h fun W1 ρ1 H1 rv vs f1 q1 h1 => ?_
  have hl := q1.length
  unfold lstE at h1
  split at h1
  · rename_i hz
    refine ⟨line_le (by omega), fun p n => ?_⟩
    have fS := FxE.shrink rs f1
    cases e : datas rv with
    | some xs =>
      rw [e] at h1
      have ra : RpA X.K W H1 xs vs := q1.datas e f1.wm rs.ex f1.rs.dom
      have g := FxE.own (xs := vs) fS.rs n
      refine h1 _ _ _ (fS.trans g) ⟨p, rfl, .inr rfl, fun z => f1.dm p z n, Ow.not fS.rs n, vs, upd_same, line_le (by omega), ?_⟩
      exact Stay.rpA ⟨fun a o e _ => grow_upd n a o e, g.wg, fS.rs.dom⟩ ra
    | none => rw [e] at h1; exact h1.elim
  · exact h1.elim

/-! ### slices -/
def OcO (C : Ctx) (W : Wd) (ρ : Env) (σ : L2.St) (H : Hp) (Q : Option Int → Env → Wd → Hp → Prop) (r : R (Option Int)) : Prop := OcG C W ρ σ H Q r
def rdO (C : Ctx) (f : Env → R (Option Int)) : TO := fun σ H Q => ∃ W ρ, RS C.K C.fa W ρ σ H ∧ OcG C W ρ σ H (fun o _ _ H' => Q o H') (f ρ)
theorem po_no : PO X none (rdO (cx X fa ca Wx) fun ρ => .ok none ρ) := PO.mono po_none fun σ H Q ⟨W, ρ, rs, h⟩ => h W H (FxE.refl rs)
theorem po_yes {ta : Env → R RV} (ha : PE X a (rd (cx X fa ca Wx) ta)) : PO X (some a) (rdO (cx X fa ca Wx) fun ρ => (ta ρ).bind fun r ρ1 => match toI r ρ1 with
    | some i => .ok (some i) ρ1
    | none => .bad) := by
  refine PO.mono (po_some ha) fun σ H Q ⟨W, ρ, rs, h⟩ => ?_
  refine rd_thenG rs h fun W1 ρ1 H1 r v f1 q1 h1 => ?_
  unfold toI at h1
  cases e : derefP ρ1 r with
  | none => rw [e] at h1; exact h1.elim
  | some x =>
    rw [e] at h1
    cases x with
    | int i => exact ⟨i, ro_int (q1.ro f1.rs e), h1 W1 H1 (FxE.refl f1.rs)⟩
    | _ => exact h1.elim
theorem rdO_then {C : Ctx} {W : Wd} {ρ : Env} {σ : L2.St} {H : Hp} {Q : VK} {f : Env → R (Option Int)} {k : Option Int → Env → R RV} {Q' : Option Int → Hp → Prop} (rs : RS C.K C.fa W ρ σ H) (h : Oc C W ρ σ H Q ((f ρ).bind k))
    (hk : ∀ W1 ρ1 H1 b, FxE C.K C.fa W ρ σ H W1 ρ1 H1 → Oc C W1 ρ1 σ H1 Q (k b ρ1) → Q' b H1) : rdO C f σ H Q' := by
  refine ⟨W, ρ, rs, ?_⟩
  cases e : f ρ with
  | ok r ρ' =>
    rw [e] at h
    exact fun W' H' g => hk W' ρ' H' r g (Oc.step g h)
  | ex e' ρ' =>
    rw [e] at h
    exact h
  | bad =>
    rw [e] at h
    exact h
theorem ex_sl {lo hi : Option Expr} {p2 : Pos} {ta : Env → R RV} {tl th : Env → R (Option Int)} (ha : PE X a (rd (cx X fa ca Wx) ta)) (hl : PO X lo (rdO (cx X fa ca Wx) tl)) (hh : PO X hi (rdO (cx X fa ca Wx) th)) :
    PE X (.Subscript a (.Slice lo hi none p2) pos) (rd (cx X fa ca Wx) fun ρ => (ta ρ).bind fun r ρ1 => (tl ρ1).bind fun l ρ2 => (th ρ2).bind fun h ρ3 => un true (cutP l h) r ρ3) := by
  refine PE.mono (pe_slice slD ha hl hh) fun σ H Q ⟨W, ρ, rs, h⟩ => ?_
  refine rd_then rs h fun W1 ρ1 H1 r v f1 q1 h1 => rdO_then f1.rs h1 fun W2 ρ2 H2 l f2 h2 => rdO_then f2.rs h2 fun W3 ρ3 H3 u f3 h3 => ?_
  exact un_fin f3.rs h3 ((q1.pers f1.rs f2).pers f2.rs f3)

/-! ### built-in functions of one argument -/
theorem one_arg {ta : Env → R RV} {p : Pr} (d : Der X fa ca Wx a p) : PA X [a] (tCons (rd (cx X fa ca Wx) p.v) tNil) := pa_cons d.v pa_nil (plain_star d.sy [] _)
def biN : Bi → Str
  | .len => "len" | .abs => "abs" | .int => "int" | .all => "all" | .any => "any" | .tuple => "tuple" | .list => "list" | .sum => "sum" | .str => "str" | .isi _ => "isinstance"
theorem ex_biB {f : P → Option P} {id : String} {x : Str} {p : Pos} {q : Pr} (hc : CallR X (.builtin id) (rB X.K f)) (hg : Gl X x) (hm : X.mg x = none) (hv : bootBuiltins x = some (.builtin id)) (hn : x ≠ "__name__") (hd : (x == ("__debug__" : Str)) = false) (d : Der X fa ca Wx a q) :
    PE X (.Call (.Name x p) [a] [] pos) (rd (cx X fa ca Wx) fun ρ => (q.v ρ).bind (un false f)) := by
  refine PE.mono (pe_callB hc hg hm hv (pa_cons d.v pa_nil (plain_star d.sy [] _)) hn hd (plain_star d.sy [] _) (star_all pos (es := []) rfl)) fun σ H Q ⟨W, ρ, rs, h⟩ => ?_
  exact rd_then rs h fun W1 ρ1 H1 r v f1 q1 h1 => ⟨v, rfl, uns_fin f1.rs h1 q1⟩
theorem ex_biT {f : P → Option P} {id : String} {x : Str} {p : Pos} {q : Pr} (hc : CallR X (.type id) (rB X.K f)) (hg : Gl X x) (hm : X.mg x = none) (hv : bootBuiltins x = some (.type id)) (hn : x ≠ "__name__") (hd : (x == ("__debug__" : Str)) = false) (d : Der X fa ca Wx a q) :
    PE X (.Call (.Name x p) [a] [] pos) (rd (cx X fa ca Wx) fun ρ => (q.v ρ).bind (un false f)) := by
  refine PE.mono (pe_callTy hc hg hm hv (pa_cons d.v pa_nil (plain_star d.sy [] _)) hn hd (plain_star d.sy [] _) (star_all pos (es := []) rfl)) fun σ H Q ⟨W, ρ, rs, h⟩ => ?_
  exact rd_then rs h fun W1 ρ1 H1 r v f1 q1 h1 => ⟨v, rfl, uns_fin f1.rs h1 q1⟩
theorem ex_list {x : Str} {p : Pos} {q : Pr} (hg : Gl X "list") (hm : X.mg "list" = none) (d : Der X fa ca Wx a q) :
    PE X (.Call (.Name "list" p) [a] [] pos) (rd (cx X fa ca Wx) fun ρ => (q.v ρ).bind lstR) := by
  refine PE.mono (pe_callTy cD_list hg hm (by decide +kernel) (pa_cons d.v pa_nil (plain_star d.sy [] _)) (by decide) (by decide) (plain_star d.sy [] _) (star_all pos (es := []) rfl)) fun σ H Q ⟨W, ρ, rs, h⟩ => ?_
  exact rd_then rs h fun W1 ρ1 H1 r v f1 q1 h1 => lst_fin f1.rs h1 q1
theorem ex_isi (T : Ty) {p p2 : Pos} {q : Pr} (hg : Gl X "isinstance") (hm : X.mg "isinstance" = none) (hgT : Gl X (Str.ofString T.s)) (hmT : X.mg (Str.ofString T.s) = none) (d : Der X fa ca Wx a q) :
    PE X (.Call (.Name "isinstance" p) [a, .Name (Str.ofString T.s) p2] [] pos) (rd (cx X fa ca Wx) fun ρ => (q.v ρ).bind (un false fun x => some (.bool (isiP T x)))) := by
  have hT : PE X (.Name (Str.ofString T.s) p2) (tC (.ty T.s)) := pe_bltn (u := .type T.s) hgT hmT (by cases T <;> decide +kernel) rfl (by cases T <;> decide +kernel) (by cases T <;> decide +kernel)
  refine PE.mono (pe_callB (cD_isi T) hg hm (by decide +kernel) (pa_cons d.v (pa_cons hT pa_nil (plain_star rfl [] _)) (plain_star d.sy _ _)) (by decide) (by decide) (plain_star d.sy _ _) (star_all pos (es := [.Name (Str.ofString T.s) p2]) rfl)) fun σ H Q ⟨W, ρ, rs, h⟩ => ?_
  refine rd_then rs h fun W1 ρ1 H1 r v f1 q1 h1 => ?_
  obtain ⟨W', x, c, hd, ro, e, q⟩ := uns_fin f1.rs h1 q1
  cases e
  exact ⟨v, W', x, rfl, ro, q _ _ (fun _ _ e => e) (.bl _)⟩
end
end Mp

set_option maxRecDepth 100000
set_option maxHeartbeats 4000000
/-! Mp8: what a def promises by the evaluator; calls. -/
namespace Mp
open PySem PySem.Spec PyProof.Rows L2

/-- arguments as they stand: a lent one is owned by who calls -/
inductive ArR (K : PySem.W.Frag) (fa : FA) (W : Wd) (H : Hp) : List Arg → List V → Prop
  | nil : ArR K fa W H [] []
  | sh {x v as vs} : RpD K fa W H x v → ArR K fa W H as vs → ArR K fa W H (.sh x :: as) (v :: vs)
  | ln {x a as vs} : RpO K W H x a → W a → ArR K fa W H as vs → ArR K fa W H (.ln x :: as) (.ref a :: vs)
def LentA (as : List Arg) (vs : List V) (a : Addr) : Prop := ∃ (i : Nat) (x : D), as[i]? = some (Arg.ln x) ∧ vs[i]? = some (V.ref a)
/-- no object is lent twice -/
def LentI (as : List Arg) (vs : List V) : Prop := ∀ (i j : Nat) (x y : D) (a : Addr), as[i]? = some (Arg.ln x) → as[j]? = some (Arg.ln y) → vs[i]? = some (V.ref a) → vs[j]? = some (V.ref a) → i = j
inductive BkR (K : PySem.W.Frag) (W : Wd) (H : Hp) : List Arg → List V → List (Option D) → Prop
  | nil : BkR K W H [] [] []
  | sh {x v as vs bk} : BkR K W H as vs bk → BkR K W H (.sh x :: as) (v :: vs) (none :: bk)
  | ln {x y a as vs bk} : RpO K W H y a → W a → BkR K W H as vs bk → BkR K W H (.ln x :: as) (.ref a :: vs) (some y :: bk)
/-- from a call's beginning to its end -/
structure FxF (K : PySem.W.Frag) (W : Wd) (H : Hp) (as : List Arg) (vs : List V) (bk : List (Option D)) (W' : Wd) (H' : Hp) : Prop where
  bk : BkR K W' H' as vs bk
  fr : ∀ a o, H a = some o → ¬ LentA as vs a → H' a = some o
  wm : ∀ a, W a → W' a
  wg : ∀ a, W' a → W a ∨ H a = none
  dm : ∀ a, H a ≠ none → H' a ≠ none
  dom : Dom W' H'
def RetR (K : PySem.W.Frag) (fa : FA) (H : Hp) (W' : Wd) (H' : Hp) (x : D) (fresh : Bool) (v : V) : Prop :=
  if fresh then ∃ a, v = V.ref a ∧ W' a ∧ H a = none ∧ RpO K W' H' x a else RpD K fa W' H' x v
def OcF (K : PySem.W.Frag) (fa ca : FA) (W : Wd) (H : Hp) (as : List Arg) (vs : List V) (Q : VK) (E : XK) : FR → Prop
  | .ok x fresh bk => ∀ W' v H', FxF K W H as vs bk W' H' → RetR K fa H W' H' x fresh v → Q v H'
  | .ex e bk => ∀ c d W' H', FxF K W H as vs bk W' H' → RpX ca e c d H' → E c d H'
  | .bad => False
/-- the promise of the def f by the evaluator -/
def spF (K : PySem.W.Frag) (fa ca : FA) (Φ : Fs) (f : Nat) : Sp := fun vs H Q E => ∃ W as, Dom W H ∧ ArR K fa W H as vs ∧ LentI as vs ∧ OcF K fa ca W H as vs Q E (Φ f as)

section
variable {K : PySem.W.Frag} {fa : FA} {W W0 W1 W2 W' : Wd} {ρ ρ0 ρ1 ρ2 : Env} {σ : L2.St} {H H' H0 H1 H2 : Hp} {Q : VK} {v : V}
theorem RpD.sub {x : D} (h : RpD K fa W H x v) (m : ∀ a, W' a → W a) (dm : Dom W H) : RpD K fa W' H x v :=
  Stay.rpD (W := W) ⟨fun _ _ e _ => e, fun a z => .inl (m a z), dm⟩ h
theorem RpO.sub {x : D} {a : Addr} (h : RpO K W H x a) (m : ∀ a, W' a → W a) (dm : Dom W H) : RpO K W' H x a :=
  Stay.rpO (W := W) ⟨fun _ _ e _ => e, fun a z => .inl (m a z), dm⟩ h fun _ e => e
/-- a fresh object is given away as a value -/
theorem RpO.give {x : D} {a : Addr} (h : RpO K W H x a) (n : ¬ W' a) (m : ∀ a, W' a → W a) (dm : Dom W H) : RpD K fa W' H x (.ref a) := by
  have h' := RpO.sub h m dm
  cases x with
  | d x =>
    cases x with
    | list ds =>
      obtain ⟨xs, h1, h2, h3⟩ := h'
      exact .lst h1 n h2 h3
    | _ => exact h'.elim
  | dct ks vs =>
    obtain ⟨kvs, h1, h2, h3, h4⟩ := h'
    exact ⟨a, rfl, n, kvs, .inl h1, h2, h3, h4⟩
  | _ => exact h'.elim


/-! the arguments of evaluated results -/
theorem argsOf_ln : ∀ {rv : List RV} {as : List Arg}, argsOf ρ rv = some as → ∀ (i : Nat) (x : D), as[i]? = some (Arg.ln x) → ∃ j l, rv[i]? = some (RV.br j) ∧ ρ[j]? = some (Sl.own l x)
  | [], _, e, i, x, h => by cases e; simp at h
  | r :: rv, as, e, i, x, h => by
    cases r with
    | sh y =>
      simp only [argsOf, Option.map_eq_some_iff] at e
      obtain ⟨as', e1, e2⟩ := e
      subst e2
      cases i with
      | zero => simp at h
      | succ i => exact argsOf_ln e1 i x (by simpa using h)
    | fr y =>
      simp only [argsOf, Option.map_eq_some_iff] at e
      obtain ⟨as', e1, e2⟩ := e
      subst e2
      cases i with
      | zero => simp at h
      | succ i => exact argsOf_ln e1 i x (by simpa using h)
    | br j =>
      simp only [argsOf] at e
      split at e
      · rename_i l y hy
        simp only [Option.map_eq_some_iff] at e
        obtain ⟨as', e1, e2⟩ := e
        subst e2
        cases i with
        | zero =>
          simp at h
          subst h
          exact ⟨j, l, rfl, hy⟩
        | succ i => exact argsOf_ln e1 i x (by simpa using h)
      · cases e
theorem lents_mem : ∀ {rv : List RV} {i j : Nat}, rv[i]? = some (RV.br j) → j ∈ lents rv
  | [], _, _, h => by simp at h
  | r :: rv, 0, j, h => by
    simp at h
    subst h
    exact List.mem_cons_self
  | r :: rv, i + 1, j, h => by
    have := lents_mem (rv := rv) (i := i) (j := j) (by simpa using h)
    cases r <;> first | exact this | exact List.mem_cons_of_mem _ this
theorem lents_inj : ∀ {rv : List RV}, (lents rv).Nodup → ∀ {i k j : Nat}, rv[i]? = some (RV.br j) → rv[k]? = some (RV.br j) → i = k
  | [], _, _, _, _, h, _ => by simp at h
  | r :: rv, nd, 0, 0, j, _, _ => rfl
  | r :: rv, nd, 0, k + 1, j, h1, h2 => by
    simp at h1
    subst h1
    have := lents_mem (rv := rv) (i := k) (j := j) (by simpa using h2)
    exact absurd this (List.nodup_cons.mp nd).1
  | r :: rv, nd, i + 1, 0, j, h1, h2 => by
    simp at h2
    subst h2
    have := lents_mem (rv := rv) (i := i) (j := j) (by simpa using h1)
    exact absurd this (List.nodup_cons.mp nd).1
  | r :: rv, nd, i + 1, k + 1, j, h1, h2 => by
    have nd' : (lents rv).Nodup := by
      cases r with
      | br j => exact (List.nodup_cons.mp nd).2
      | _ => exact nd
    rw [lents_inj nd' (i := i) (k := k) (j := j) (by simpa using h1) (by simpa using h2)]
theorem RpRs.get {rv : List RV} {vs : List V} (h : RpRs K fa W0 W ρ σ H rv vs) : ∀ {i : Nat} {r : RV}, rv[i]? = some r → ∃ v, vs[i]? = some v ∧ RpR K fa W0 W ρ σ H r v := by
  induction h with
  | nil => intro i r e; simp at e
  | cons h _ _ ih =>
    intro i r e
    cases i with
    | zero => simp at e; subst e; exact ⟨_, rfl, h⟩
    | succ i =>
      obtain ⟨v, e1, e2⟩ := ih (i := i) (r := r) (by simpa using e)
      exact ⟨v, by simpa using e1, e2⟩
/-- W1: with what is new; W: without -/
theorem args_rep (m0 : ∀ a, W a → W0 a) (m : ∀ a, W a → W1 a) (dm : Dom W1 H) (own : RS K fa W ρ σ H) : ∀ {rv : List RV} {vs : List V} {as : List Arg}, RpRs K fa W0 W1 ρ σ H rv vs → argsOf ρ rv = some as → ArR K fa W H as vs
  | _, _, _, .nil, e => by cases e; exact .nil
  | _, _, _, .cons (r := r) h _ t, e => by
    cases r with
    | sh y =>
      simp only [argsOf, Option.map_eq_some_iff] at e
      obtain ⟨as', e1, e2⟩ := e
      subst e2
      exact .sh (RpD.sub h m dm) (args_rep m0 m dm own t e1)
    | fr y =>
      simp only [argsOf, Option.map_eq_some_iff] at e
      obtain ⟨as', e1, e2⟩ := e
      subst e2
      obtain ⟨a, ea, w, n, o, r⟩ := h
      subst ea
      exact .sh (r.give (fun z => n (m0 _ z)) m dm) (args_rep m0 m dm own t e1)
    | br j =>
      simp only [argsOf] at e
      split at e
      · rename_i l y hy
        simp only [Option.map_eq_some_iff] at e
        obtain ⟨as', e1, e2⟩ := e
        subst e2
        obtain ⟨ev, l', y', hy'⟩ := h
        obtain ⟨a, e3, w, r⟩ := own.own j l y hy
        rw [ev] at e3
        cases e3
        exact .ln r w (args_rep m0 m dm own t e1)
      · cases e
theorem args_lentI (own : RS K fa W ρ σ H) {rv : List RV} {vs : List V} {as : List Arg} (h : RpRs K fa W0 W1 ρ σ H rv vs) (e : argsOf ρ rv = some as) (nd : (lents rv).Nodup) : LentI as vs := fun i k x y a h1 h2 e1 e2 => by
  obtain ⟨j, l, b1, o1⟩ := argsOf_ln e i x h1
  obtain ⟨j', l', b2, o2⟩ := argsOf_ln e k y h2
  obtain ⟨v, g1, s1, _⟩ := h.get b1
  obtain ⟨v', g2, s2, _⟩ := h.get b2
  rw [e1] at g1; cases g1
  rw [e2] at g2; cases g2
  have := own.inj j j' l l' x y a o1 o2 s1 s2
  subst this
  exact lents_inj nd b1 b2
theorem lent_slot {rv : List RV} {vs : List V} {as : List Arg} {a : Addr} (h : RpRs K fa W0 W1 ρ σ H rv vs) (e : argsOf ρ rv = some as) (la : LentA as vs a) : ∃ (i j : Nat) (l : Bool) (x : D), rv[i]? = some (RV.br j) ∧ ρ[j]? = some (Sl.own l x) ∧ σ[j]? = some (some (V.ref a)) := by
  obtain ⟨i, x, h1, h2⟩ := la
  obtain ⟨j, l, b1, o1⟩ := argsOf_ln e i x h1
  obtain ⟨v, g1, s1, _⟩ := h.get b1
  rw [h2] at g1; cases g1
  exact ⟨i, j, l, x, b1, o1, s1⟩

/-! what comes back -/
def bkAt : List RV → List (Option D) → Nat → Option D
  | .br j :: r, some y :: b, i => if j = i then some y else bkAt r b i
  | _ :: r, _ :: b, i => bkAt r b i
  | _, _, _ => none
theorem bkAt_not : ∀ {rv : List RV} {bk : List (Option D)} {i : Nat}, i ∉ lents rv → bkAt rv bk i = none
  | [], _, _, _ => by unfold bkAt; rfl
  | r :: rv, [], i, h => by cases r <;> (unfold bkAt; rfl)
  | .sh _ :: rv, b :: bk, i, h => by
    have := bkAt_not (rv := rv) (bk := bk) (i := i) h
    unfold bkAt; exact this
  | .fr _ :: rv, b :: bk, i, h => by
    have := bkAt_not (rv := rv) (bk := bk) (i := i) h
    unfold bkAt; exact this
  | .br j :: rv, b :: bk, i, h => by
    have h' : ¬ (i = j ∨ i ∈ lents rv) := fun z => h (List.mem_cons.mpr z)
    have := bkAt_not (rv := rv) (bk := bk) (i := i) fun z => h' (.inr z)
    cases b with
    | none => unfold bkAt; exact this
    | some y =>
      unfold bkAt
      rw [if_neg (fun z => h' (.inl z.symm))]
      exact this
theorem putBk_other : ∀ {rv : List RV} {bk : List (Option D)} {ρ : Env} {i : Nat}, (∀ l x, ρ[i]? ≠ some (Sl.own l x)) → (putBk rv bk ρ)[i]? = ρ[i]?
  | [], _, _, _, _ => by unfold putBk; rfl
  | r :: rv, [], ρ, i, h => by cases r <;> (unfold putBk; rfl)
  | .sh _ :: rv, b :: bk, ρ, i, h => by unfold putBk; exact putBk_other h
  | .fr _ :: rv, b :: bk, ρ, i, h => by unfold putBk; exact putBk_other h
  | .br j :: rv, none :: bk, ρ, i, h => by unfold putBk; exact putBk_other h
  | .br j :: rv, some y :: bk, ρ, i, h => by
    unfold putBk
    split
    · rename_i l x hx
      have hij : i ≠ j := fun z => by subst z; exact h _ _ hx
      have e : (ρ.set j (Sl.own l y))[i]? = ρ[i]? := List.getElem?_set_ne (Ne.symm hij)
      rw [putBk_other (by rw [e]; exact h), e]
    · exact putBk_other h
theorem putBk_own : ∀ {rv : List RV} {bk : List (Option D)} {ρ : Env} {i : Nat} {l : Bool} {x : D}, (lents rv).Nodup → ρ[i]? = some (Sl.own l x) → (putBk rv bk ρ)[i]? = some (Sl.own l ((bkAt rv bk i).getD x))
  | [], _, _, _, _, _, _, h => by unfold putBk bkAt; exact h
  | r :: rv, [], ρ, i, l, x, _, h => by cases r <;> (unfold putBk bkAt; exact h)
  | .sh _ :: rv, b :: bk, ρ, i, l, x, nd, h => by unfold putBk bkAt; exact putBk_own (rv := rv) nd h
  | .fr _ :: rv, b :: bk, ρ, i, l, x, nd, h => by unfold putBk bkAt; exact putBk_own (rv := rv) nd h
  | .br j :: rv, none :: bk, ρ, i, l, x, nd, h => by unfold putBk bkAt; exact putBk_own (List.nodup_cons.mp nd).2 h
  | .br j :: rv, some y :: bk, ρ, i, l, x, nd, h => by
    have nd' := List.nodup_cons.mp nd
    unfold putBk bkAt
    by_cases hij : j = i
    · subst hij
      rw [h]
      simp only
      have hl : j < ρ.length := (List.getElem?_eq_some_iff.mp h).1
      rw [if_pos trivial, putBk_own (x := y) nd'.2 (by rw [List.getElem?_set_self hl]), bkAt_not nd'.1]
      rfl
    · rw [if_neg hij]
      split
      · rename_i l' x' hx'
        exact putBk_own nd'.2 (by rw [List.getElem?_set_ne hij]; exact h)
      · exact putBk_own nd'.2 h
theorem putBk_len : ∀ {rv : List RV} {bk : List (Option D)} {ρ : Env}, (putBk rv bk ρ).length = ρ.length
  | [], _, _ => by unfold putBk; rfl
  | r :: rv, [], ρ => by cases r <;> (unfold putBk; rfl)
  | .sh _ :: rv, b :: bk, ρ => by unfold putBk; exact putBk_len
  | .fr _ :: rv, b :: bk, ρ => by unfold putBk; exact putBk_len
  | .br j :: rv, none :: bk, ρ => by unfold putBk; exact putBk_len
  | .br j :: rv, some y :: bk, ρ => by
    unfold putBk
    split
    · rw [putBk_len, List.length_set]
    · exact putBk_len
theorem bk_at : ∀ {rv : List RV} {vs : List V} {as : List Arg} {bk : List (Option D)} {W2 : Wd} {H2 : Hp}, RpRs K fa W0 W1 ρ σ H rv vs → argsOf ρ rv = some as → BkR K W2 H2 as vs bk →
    ∀ {j : Nat}, (∀ {y : D}, bkAt rv bk j = some y → ∃ a, σ[j]? = some (some (V.ref a)) ∧ W2 a ∧ RpO K W2 H2 y a) ∧ (bkAt rv bk j = none → j ∉ lents rv)
  | _, _, _, _, W2, H2, .nil, e, b, j => by
    cases e; cases b
    exact ⟨fun h => (by unfold bkAt at h; cases h), fun _ => (by simp [lents])⟩
  | _, _, _, _, W2, H2, .cons (r := r) h _ t, e, b, j => by
    cases r with
    | sh y =>
      simp only [argsOf, Option.map_eq_some_iff] at e
      obtain ⟨as', e1, e2⟩ := e
      subst e2
      cases b with
      | sh b =>
        obtain ⟨i1, i2⟩ := bk_at t e1 b (j := j)
        exact ⟨fun h => i1 (by unfold bkAt at h; exact h), fun h => i2 (by unfold bkAt at h; exact h)⟩
    | fr y =>
      simp only [argsOf, Option.map_eq_some_iff] at e
      obtain ⟨as', e1, e2⟩ := e
      subst e2
      cases b with
      | sh b =>
        obtain ⟨i1, i2⟩ := bk_at t e1 b (j := j)
        exact ⟨fun h => i1 (by unfold bkAt at h; exact h), fun h => i2 (by unfold bkAt at h; exact h)⟩
    | br j' =>
      simp only [argsOf] at e
      split at e
      · rename_i l y hy
        simp only [Option.map_eq_some_iff] at e
        obtain ⟨as', e1, e2⟩ := e
        subst e2
        cases b with
        | ln r w b =>
          obtain ⟨i1, i2⟩ := bk_at t e1 b (j := j)
          obtain ⟨ev, _⟩ := h
          refine ⟨fun h => ?_, fun h => ?_⟩
          · unfold bkAt at h
            by_cases hj : j' = j
            · rw [if_pos hj] at h
              cases h
              subst hj
              exact ⟨_, ev, w, r⟩
            · rw [if_neg hj] at h
              exact i1 h
          · unfold bkAt at h
            by_cases hj : j' = j
            · rw [if_pos hj] at h; cases h
            · rw [if_neg hj] at h
              intro z
              rcases List.mem_cons.mp z with z | z
              · exact hj z.symm
              · exact i2 h z
      · cases e
/-- behind a call -/
theorem fx_call (own : RS K fa W ρ σ H) {rv : List RV} {vs : List V} {as : List Arg} {bk : List (Option D)} (h : RpRs K fa W0 W1 ρ σ H rv vs) (e : argsOf ρ rv = some as) (nd : (lents rv).Nodup)
    (f : FxF K W H as vs bk W2 H2) : FxE K fa W ρ σ H W2 (putBk rv bk ρ) H2 := by
  have notL : ∀ a, ¬ W a → ¬ LentA as vs a := fun a n la => by
    obtain ⟨i, j, l, x, _, o, s⟩ := lent_slot h e la
    exact n (own.owW ⟨j, l, x, o, s⟩)
  have st : Stay W H W2 H2 := ⟨fun a o e n => f.fr a o e (notL a n), f.wg, own.dom⟩
  have fwd : ∀ i l x, ρ[i]? = some (Sl.own l x) → (putBk rv bk ρ)[i]? = some (Sl.own l ((bkAt rv bk i).getD x)) := fun i l x => putBk_own nd
  have bwd : ∀ i, (∀ l x, ρ[i]? ≠ some (Sl.own l x)) → (putBk rv bk ρ)[i]? = ρ[i]? := fun i => putBk_other
  have back : ∀ i l y, (putBk rv bk ρ)[i]? = some (Sl.own l y) → ∃ x, ρ[i]? = some (Sl.own l x) ∧ y = (bkAt rv bk i).getD x := fun i l y hy => by
    cases q : ρ[i]? with
    | none => rw [bwd i (fun _ _ z => by rw [q] at z; cases z), q] at hy; cases hy
    | some s =>
      cases s with
      | own l' x =>
        rw [fwd i l' x q] at hy
        cases hy
        exact ⟨x, rfl, rfl⟩
      | un => rw [bwd i (fun _ _ z => by rw [q] at z; cases z), q] at hy; cases hy
      | val _ => rw [bwd i (fun _ _ z => by rw [q] at z; cases z), q] at hy; cases hy
  refine ⟨⟨by rw [putBk_len]; exact own.len, fun i x hx => ?_, fun i l y hy => ?_, fun i j l l' x x' a h1 h2 => ?_, f.dom⟩, fun a o ea n => f.fr a o ea fun la => ?_, fun i l x hx => ⟨_, fwd i l x hx⟩, fun i l x hx => ?_, f.wm, f.wg, f.dm⟩
  · cases q : ρ[i]? with
    | none => rw [bwd i (fun _ _ z => by rw [q] at z; cases z), q] at hx; cases hx
    | some s =>
      cases s with
      | own l' x' => rw [fwd i l' x' q] at hx; cases hx
      | un => rw [bwd i (fun _ _ z => by rw [q] at z; cases z), q] at hx; cases hx
      | val x' =>
        rw [bwd i (fun _ _ z => by rw [q] at z; cases z), q] at hx
        cases hx
        obtain ⟨v, e1, r⟩ := own.val i x q
        exact ⟨v, e1, st.rpD r⟩
  · obtain ⟨x, hx, ey⟩ := back i l y hy
    obtain ⟨a, e1, w, r⟩ := own.own i l x hx
    obtain ⟨b1, b2⟩ := bk_at h e f.bk (j := i)
    cases q : bkAt rv bk i with
    | some y' =>
      rw [q] at ey
      simp only [Option.getD_some] at ey
      subst ey
      obtain ⟨a', e2, w2, r2⟩ := b1 q
      exact ⟨a', e2, w2, r2⟩
    | none =>
      rw [q] at ey
      simp only [Option.getD_none] at ey
      subst ey
      refine ⟨a, e1, f.wm a w, st.rpO r fun o ho => f.fr a o ho fun la => ?_⟩
      obtain ⟨k, j, l', x', b, o', s⟩ := lent_slot h e la
      have := own.inj i j l l' y x' a hx o' e1 s
      subst this
      exact b2 q (lents_mem b)
  · obtain ⟨y, hy, _⟩ := back i l x h1
    obtain ⟨y', hy', _⟩ := back j l' x' h2
    exact own.inj i j l l' y y' a hy hy'
  · obtain ⟨i, j, l, x, _, o', s⟩ := lent_slot h e la
    exact n ⟨j, l, x, o', s⟩
  · obtain ⟨y, hy, _⟩ := back i l x hx
    exact ⟨y, hy⟩
end

/-! ### the call -/
section
variable {X : Cx} {fa ca : FA} {Wx : WX} {pos p : Pos}
structure FnC (X : Cx) (fa ca : FA) (k : Nat) (Φ : Fs) (i : Nat) (x : Str) : Prop where
  mg : X.mg x = some (.ref (fa i))
  kp : PySem.W.keepIn X.K (.ref (fa i)) = true
  ok : ∃ fd ps, FnOk X.prog X.w X.K X.mg X.base (L2.CX X.prog X.w) k (fa i) fd ps (spF X.K fa ca Φ i) ∧ Binds X.K fd ps []
theorem call_fin {Φ : Fs} {i : Nat} {W W1 : Wd} {ρ ρ1 : Env} {σ : L2.St} {H H1 : Hp} {Q : VK} {rv : List RV} {vs : List V} (rs : RS X.K fa W ρ σ H) (f1 : FxE X.K fa W ρ σ H W1 ρ1 H1) (q1 : RpRs X.K fa (Ex_ H) W1 ρ1 σ H1 rv vs)
    (h : Oc (cx X fa ca Wx) W ρ σ H Q (callE Φ i rv ρ1)) : spF X.K fa ca Φ i vs H1 Q (WE Wx σ) := by
  unfold callE at h
  split at h
  · rename_i nd
    cases e : argsOf ρ1 rv with
    | none => rw [e] at h; exact h.elim
    | some as =>
      rw [e] at h
      simp only at h
      have fS := FxE.shrink rs f1
      refine ⟨W, as, fS.rs.dom, args_rep rs.ex f1.wm f1.rs.dom fS.rs q1 e, args_lentI fS.rs q1 e nd, ?_⟩
      cases ep : Φ i as with
      | ok x fr bk =>
        rw [ep] at h
        intro W2 v H2 g r
        have fc := fx_call fS.rs q1 e nd g
        refine h W2 v H2 (fS.trans fc) ?_
        cases fr with
        | true =>
          obtain ⟨a, ea, w, n, r⟩ := r
          refine ⟨a, ea, w, fun z => f1.dm a z n, fun z => ?_, r⟩
          have := (fc.owIff a).mp z
          exact Ow.not fS.rs n this
        | false => exact r
      | ex e' bk =>
        rw [ep] at h
        intro c d W2 H2 g r
        have fc := fx_call fS.rs q1 e nd g
        exact h c d W2 H2 (fS.trans fc) r
      | bad => rw [ep] at h; exact h.elim
  · exact h.elim
theorem ex_call {Φ : Fs} {k i : Nat} {x : Str} {es : List Expr} {ps : List Pr} (F : FnC X fa ca k Φ i x) (hr : Room k X.A) (tk : Takes X Wx) (hg : Gl X x) (hdb : (x == ("__debug__" : Str)) = false) (h : Paired (Der X fa ca Wx) es ps) :
    PE X (.Call (.Name x p) es [] pos) (rd (cx X fa ca Wx) fun ρ => (evsL ps ρ).bind (callE Φ i)) := by
  obtain ⟨fd, pn, ok, hb⟩ := F.ok
  have pa := pa_all es ps h
  have hp := paired_plain h
  cases h with
  | nil =>
    refine ⟨fun pins s σ H Q I ⟨W, ρ, rs, h⟩ => ?_⟩
    refine wpAny_Call_Name_kw (ld_glob I hg F.mg ?_ hdb)
    refine PySem.W.callWith_K0 I.kIn F.kp (run_fnS (us := []) ok hr hb (passAt tk σ) I .nil ?_)
    exact call_fin rs (FxE.refl rs) .nil h
  | cons d ds =>
    rename_i e p1 es' ps'
    rw [List.all_cons, Bool.and_eq_true] at hp
    refine PE.mono (pe_callS ok hr hg F.mg F.kp hb (passAt tk) pa hdb (plain_star hp.1 _ _) (star_all pos hp.2)) fun σ H Q ⟨W, ρ, rs, h⟩ => ?_
    exact rdA_then rs h fun W1 ρ1 H1 rv vs f1 q1 h1 => call_fin rs f1 q1 h1
end
end Mp

set_option maxRecDepth 100000
set_option maxHeartbeats 4000000
/-! Mp9: what is walked, targets, list comprehensions. -/
namespace Mp
open PySem PySem.Spec PyProof.Rows L2 RZ

/-! ### what is walked -/
def ItOk (K : PySem.W.Frag) (fa : FA) (W : Wd) (H : Hp) (J : It) (items : List D) : Prop :=
  items.length ≤ 16777216 ∧ ∀ W2 H2, Stay W H W2 H2 → Dom W2 H2 → (∀ (i : Nat) (x : D), items[i]? = some x → J.go i H2 ∧ ∀ v H3, J.yld i H2 v H3 → (∀ a o, H2 a = some o → H3 a = some o) ∧ RpD K fa W2 H3 x v) ∧
    ∀ i, items.length ≤ i → J.stop i H2
def OcI (C : Ctx) (W : Wd) (ρ : Env) (σ : L2.St) (H : Hp) (Q : List D → Env → Wd → It → Hp → Prop) : R (List D) → Prop
  | .ok l ρ' => ∀ W' J H', FxE C.K C.fa W ρ σ H W' ρ' H' → ItOk C.K C.fa W' H' J l → Q l ρ' W' J H'
  | .ex e ρ' => ∀ c d W' H', FxE C.K C.fa W ρ σ H W' ρ' H' → RpX C.ca e c d H' → C.Wx c d σ H'
  | .bad => False
def rdI (C : Ctx) (f : Env → R (List D)) : TI := fun σ H R => ∃ W ρ, RS C.K C.fa W ρ σ H ∧ OcI C W ρ σ H (fun _ _ _ J H' => R J H') (f ρ)

theorem PI.mono {X : Cx} {tg e : Expr} {t t' : TI} (h : PI X tg e t) (hi : ∀ σ H Q, t' σ H Q → t σ H Q) : PI X tg e t' := ⟨fun pins s σ H Q I q => h.run pins s σ H Q I (hi _ _ _ q)⟩
theorem PI.or {X : Cx} {tg e : Expr} {t t' : TI} (h : PI X tg e t) (h' : PI X tg e t') : PI X tg e (fun σ H Q => t σ H Q ∨ t' σ H Q) := ⟨fun pins s σ H Q I q => q.elim (h.run pins s σ H Q I) (h'.run pins s σ H Q I)⟩
section
variable {K : PySem.W.Frag} {fa : FA} {W : Wd} {H : Hp}
theorem itOk_list {a : Addr} {xs : List V} {ds : List P} (h : H a = some (.lst xs)) (n : ¬ W a) (z : xs.length ≤ sizeLine) (r : RpA K W H ds xs) : ItOk K fa W H (Itl K a) (ds.map D.d) := by
  have hl := r.length
  refine ⟨by rw [List.length_map]; exact le_line (by omega), fun W2 H2 st dm => ⟨fun i x e => ?_, fun i hi => ⟨xs, .inl (.inl (st.k _ _ h n)), by rw [List.length_map] at hi; omega⟩⟩⟩
  rw [List.getElem?_map] at e
  obtain ⟨d, e1, e2⟩ := Option.map_eq_some_iff.mp e
  subst e2
  obtain ⟨v, e3, r3⟩ := r.get e1
  refine ⟨⟨xs, v, .inl (.inl (st.k _ _ h n)), e3⟩, fun v' H3 hy => ?_⟩
  obtain ⟨e4, hy⟩ := hy
  subst e4
  have := hy xs (.inl (.inl (st.k _ _ h n)))
  rw [e3] at this
  cases this
  exact ⟨fun _ _ e => e, st.rp r3⟩
theorem itOk_tup {a : Addr} {xs : List V} {ds : List D} (h : SqT K H a xs) (z : xs.length ≤ sizeLine) (hl : ds.length = xs.length) (r : ∀ (i : Nat) (x : D), ds[i]? = some x → ∃ v, xs[i]? = some v ∧ RpD K fa W H x v) : ItOk K fa W H (Itt K a) ds := by
  refine ⟨le_line (by omega), fun W2 H2 st dm => ⟨fun i x e => ?_, fun i hi => ⟨xs, st.sqT h, by omega⟩⟩⟩
  obtain ⟨v, e3, r3⟩ := r i x e
  refine ⟨⟨xs, v, st.sqT h, e3⟩, fun v' H3 hy => ?_⟩
  obtain ⟨e4, hy⟩ := hy
  subst e4
  have := hy xs (st.sqT h)
  rw [e3] at this
  cases this
  exact ⟨fun _ _ e => e, st.rpD r3⟩
theorem itOk_range (lo : Int) (n : Nat) (hn : n ≤ 16777216) : ItOk K fa W H (Itr lo n) ((List.range n).map fun (i : Nat) => D.d (.int (lo + (i : Int)))) := by
  refine ⟨by rw [List.length_map, List.length_range]; exact hn, fun W2 H2 st dm => ⟨fun i x e => ?_, fun i hi => by rw [List.length_map, List.length_range] at hi; exact hi⟩⟩
  rw [List.getElem?_map] at e
  obtain ⟨d, e1, e2⟩ := Option.map_eq_some_iff.mp e
  subst e2
  have hi : i < n := by
    have := (List.getElem?_eq_some_iff.mp e1).1
    rwa [List.length_range] at this
  have : d = i := by
    rw [List.getElem?_range hi] at e1
    exact (Option.some.inj e1).symm
  subst this
  refine ⟨hi, fun v' H3 hy => ?_⟩
  obtain ⟨e4, e5⟩ := hy
  subst e4 e5
  exact ⟨fun _ _ e => e, .int _⟩
theorem zipL_get : ∀ {xs ys : List P} {i : Nat} {z : D}, (zipL xs ys)[i]? = some z → ∃ x y, xs[i]? = some x ∧ ys[i]? = some y ∧ z = .d (.tuple [x, y])
  | [], ys, i, z, e => by unfold zipL at e; simp at e
  | x :: xs, [], i, z, e => by unfold zipL at e; simp at e
  | x :: xs, y :: ys, 0, z, e => by
    unfold zipL at e
    simp at e
    exact ⟨x, y, rfl, rfl, e.symm⟩
  | x :: xs, y :: ys, i + 1, z, e => by
    unfold zipL at e
    obtain ⟨a, b, h1, h2, h3⟩ := zipL_get (xs := xs) (ys := ys) (i := i) (z := z) (by simpa using e)
    exact ⟨a, b, by simpa using h1, by simpa using h2, h3⟩
theorem zipL_len : ∀ (xs ys : List P), (zipL xs ys).length = min xs.length ys.length
  | [], ys => by unfold zipL; simp
  | x :: xs, [] => by unfold zipL; simp
  | x :: xs, y :: ys => by
    unfold zipL
    have := zipL_len xs ys
    simp only [List.length_cons, this]
    omega
theorem rp_pair {W2 : Wd} {H2 : Hp} {x y : P} {v u : V} {T : Addr} (dm : Dom W2 H2) (h1 : Rp K W2 H2 x v) (h2 : Rp K W2 H2 y u) (n : H2 T = none) : Rp K W2 (upd H2 T (.tup [v, u])) (.tuple [x, y]) (.ref T) :=
  (rp_newTup dm (.cons h1 (.cons h2 .nil)) (by show 2 ≤ sizeLine; rw [sizeLine_eq]; decide) n).2
theorem itOk_zip {a b : Addr} {xs ys : List V} {ds es : List P} (h : H a = some (.lst xs)) (n : ¬ W a) (z : xs.length ≤ sizeLine) (r : RpA K W H ds xs) (h' : H b = some (.lst ys)) (n' : ¬ W b) (r' : RpA K W H es ys) : ItOk K fa W H (Itz K a b) (zipL ds es) := by
  have hl := r.length
  have hl' := r'.length
  have hz := le_line z
  refine ⟨by rw [zipL_len]; omega, fun W2 H2 st dm => ⟨fun i x e => ?_, fun i hi => ⟨xs, ys, .inl (.inl (st.k _ _ h n)), .inl (.inl (st.k _ _ h' n')), by rw [zipL_len] at hi; omega⟩⟩⟩
  obtain ⟨x1, y1, e1, e2, e3⟩ := zipL_get e
  obtain ⟨v, e4, r4⟩ := r.get e1
  obtain ⟨u, e5, r5⟩ := r'.get e2
  refine ⟨⟨xs, ys, v, u, .inl (.inl (st.k _ _ h n)), .inl (.inl (st.k _ _ h' n')), e4, e5⟩, fun v' H3 hy => ?_⟩
  obtain ⟨T, v2, u2, ev, nT, eH, f1, f2⟩ := hy
  have g1 := f1 xs (.inl (.inl (st.k _ _ h n)))
  have g2 := f2 ys (.inl (.inl (st.k _ _ h' n')))
  rw [e4] at g1; cases g1
  rw [e5] at g2; cases g2
  subst ev eH e3
  exact ⟨grow_upd nT, rp_pair dm (st.rp r4) (st.rp r5) nT⟩
theorem itOk_zipT {a b : Addr} {xs ys : List V} {ds es : List P} (h : SqT K H a xs) (z : xs.length ≤ sizeLine) (r : RpA K W H ds xs) (h' : SqT K H b ys) (r' : RpA K W H es ys) : ItOk K fa W H (ItzT K a b) (zipL ds es) := by
  have hl := r.length
  have hl' := r'.length
  have hz := le_line z
  refine ⟨by rw [zipL_len]; omega, fun W2 H2 st dm => ⟨fun i x e => ?_, fun i hi => ⟨xs, ys, st.sqT h, st.sqT h', by rw [zipL_len] at hi; omega⟩⟩⟩
  obtain ⟨x1, y1, e1, e2, e3⟩ := zipL_get e
  obtain ⟨v, e4, r4⟩ := r.get e1
  obtain ⟨u, e5, r5⟩ := r'.get e2
  refine ⟨⟨xs, ys, v, u, st.sqT h, st.sqT h', e4, e5⟩, fun v' H3 hy => ?_⟩
  obtain ⟨T, v2, u2, ev, nT, eH, f1, f2⟩ := hy
  have g1 := f1 xs (st.sqT h)
  have g2 := f2 ys (st.sqT h')
  rw [e4] at g1; cases g1
  rw [e5] at g2; cases g2
  subst ev eH e3
  exact ⟨grow_upd nT, rp_pair dm (st.rp r4) (st.rp r5) nT⟩
theorem enumL_get : ∀ {xs : List P} {n i : Nat} {z : D}, (enumL n xs)[i]? = some z → ∃ x, xs[i]? = some x ∧ z = .d (.tuple [.int ((n + i : Nat) : Int), x])
  | [], n, i, z, e => by unfold enumL at e; simp at e
  | x :: xs, n, 0, z, e => by
    unfold enumL at e
    simp at e
    exact ⟨x, rfl, e.symm⟩
  | x :: xs, n, i + 1, z, e => by
    unfold enumL at e
    obtain ⟨a, h1, h2⟩ := enumL_get (xs := xs) (n := n + 1) (i := i) (z := z) (by simpa using e)
    refine ⟨a, by simpa using h1, ?_⟩
    rw [h2]
    have : n + 1 + i = n + (i + 1) := by omega
    rw [this]
theorem enumL_len : ∀ (xs : List P) (n : Nat), (enumL n xs).length = xs.length
  | [], n => by unfold enumL; simp
  | x :: xs, n => by unfold enumL; simp [enumL_len xs]
theorem itOk_enum {a : Addr} {xs : List V} {ds : List P} (h : H a = some (.lst xs)) (n : ¬ W a) (z : xs.length ≤ sizeLine) (r : RpA K W H ds xs) : ItOk K fa W H (Ite K a) (enumL 0 ds) := by
  have hl := r.length
  have hz := le_line z
  refine ⟨by rw [enumL_len]; omega, fun W2 H2 st dm => ⟨fun i x e => ?_, fun i hi => ⟨xs, .inl (.inl (st.k _ _ h n)), by rw [enumL_len] at hi; omega⟩⟩⟩
  obtain ⟨x1, e1, e3⟩ := enumL_get e
  obtain ⟨v, e4, r4⟩ := r.get e1
  refine ⟨⟨xs, v, .inl (.inl (st.k _ _ h n)), e4⟩, fun v' H3 hy => ?_⟩
  obtain ⟨T, v2, ev, nT, eH, f1⟩ := hy
  have g1 := f1 xs (.inl (.inl (st.k _ _ h n)))
  rw [e4] at g1; cases g1
  subst ev eH e3
  refine ⟨grow_upd nT, ?_⟩
  rw [Nat.zero_add]
  exact rp_pair dm (.int _) (st.rp r4) nT
end

section
variable {X : Cx} {fa ca : FA} {Wx : WX} {a b c tg : Expr} {pos p : Pos}
theorem rd_thenI {C : Ctx} {W : Wd} {ρ : Env} {σ : L2.St} {H : Hp} {QI : List D → Env → Wd → It → Hp → Prop} {f : Env → R RV} {k : RV → Env → R (List D)} {Q' : VK} (rs : RS C.K C.fa W ρ σ H) (h : OcI C W ρ σ H QI ((f ρ).bind k))
    (hk : ∀ W1 ρ1 H1 r v, FxE C.K C.fa W ρ σ H W1 ρ1 H1 → RpR C.K C.fa (Ex_ H) W1 ρ1 σ H1 r v → OcI C W ρ σ H QI (k r ρ1) → Q' v H1) : rd C f σ H Q' := by
  refine ⟨W, ρ, rs, ?_⟩
  cases e : f ρ with
  | ok r ρ' =>
    rw [e] at h
    exact fun W' v H' g q => hk W' ρ' H' r v g q h
  | ex e' ρ' =>
    rw [e] at h
    exact h
  | bad =>
    rw [e] at h
    exact h
theorem OcI.step {C : Ctx} {W W1 : Wd} {ρ ρ1 : Env} {σ : L2.St} {H H1 : Hp} {Q : List D → Env → Wd → It → Hp → Prop} {r : R (List D)} (f : FxE C.K C.fa W ρ σ H W1 ρ1 H1) (h : OcI C W ρ σ H Q r) : OcI C W1 ρ1 σ H1 Q r := by
  cases r with
  | ok r ρ' => exact fun W' J H' g q => h W' J H' (f.trans g) q
  | ex e ρ' => exact fun c d W' H' g q => h c d W' H' (f.trans g) q
  | bad => exact h
theorem rd_thenI2 {C : Ctx} {W W1 : Wd} {ρ ρ1 : Env} {σ : L2.St} {H H1 : Hp} {QI : List D → Env → Wd → It → Hp → Prop} {f : Env → R RV} {k : RV → Env → R (List D)} {Q' : VK} (f1 : FxE C.K C.fa W ρ σ H W1 ρ1 H1) (h : OcI C W ρ σ H QI ((f ρ1).bind k))
    (hk : ∀ W2 ρ2 H2 r v, FxE C.K C.fa W1 ρ1 σ H1 W2 ρ2 H2 → RpR C.K C.fa (Ex_ H1) W2 ρ2 σ H2 r v → OcI C W ρ σ H QI (k r ρ2) → Q' v H2) : rd C f σ H1 Q' := by
  refine ⟨W1, ρ1, f1.rs, ?_⟩
  cases e : f ρ1 with
  | ok r ρ' =>
    rw [e] at h
    exact fun W' v H' g q => hk W' ρ' H' r v g q h
  | ex e' ρ' =>
    rw [e] at h
    exact fun c d W' H' g q => h c d W' H' (f1.trans g) q
  | bad =>
    rw [e] at h
    exact h
/-- a result as a value, what is new let go -/
theorem RpR.out {K : PySem.W.Frag} {W W1 : Wd} {ρ ρ1 : Env} {σ : L2.St} {H H1 : Hp} {r : RV} {v : V} {x : D} (rs : RS K fa W ρ σ H) (f : FxE K fa W ρ σ H W1 ρ1 H1) (h : RpR K fa (Ex_ H) W1 ρ1 σ H1 r v) (e : shD r = some x) : RpD K fa W H1 x v := by
  cases r with
  | sh y => cases e; exact RpD.sub h f.wm f.rs.dom
  | fr y =>
    cases e
    obtain ⟨a, ea, w, n, o, r⟩ := h
    subst ea
    exact r.give (fun z => n (rs.ex a z)) f.wm f.rs.dom
  | br j => cases e
theorem it_seq {ta : Env → R RV} (ha : PE X a (rd (cx X fa ca Wx) ta)) : PI X tg a (rdI (cx X fa ca Wx) fun ρ => (ta ρ).bind seqI) := by
  refine PI.mono (PI.or (pi_list ha) (pi_tup ha)) fun σ H R ⟨W, ρ, rs, h⟩ => ?_
  have h : OcI (cx X fa ca Wx) W ρ σ H (fun _ _ _ J H' => R J H') ((ta ρ).bind seqI) := h
  cases e : ta ρ with
  | ex e' ρ1 => rw [e] at h; exact .inl ⟨W, ρ, rs, by rw [e]; exact h⟩
  | bad => rw [e] at h; exact h.elim
  | ok r ρ1 =>
    rw [e] at h
    have h : OcI (cx X fa ca Wx) W ρ σ H (fun _ _ _ J H' => R J H') (seqI r ρ1) := h
    unfold seqI at h
    cases es : shD r with
    | none => rw [es] at h; exact h.elim
    | some x =>
      rw [es] at h
      simp only at h
      cases x with
      | d x =>
        cases x with
        | list ds =>
          refine .inl ⟨W, ρ, rs, ?_⟩
          rw [e]
          intro W1 v H1 f1 q1
          have o : Rp X.K W H1 (.list ds) v := q1.out rs f1 es
          cases o with
          | lst h1 h2 h3 h4 => exact ⟨_, rfl, ⟨_, .inl (.inl h1)⟩, h W _ H1 (FxE.shrink rs f1) (itOk_list h1 h2 h3 h4)⟩
        | tuple ds =>
          refine .inr ⟨W, ρ, rs, ?_⟩
          rw [e]
          intro W1 v H1 f1 q1
          have o : Rp X.K W H1 (.tuple ds) v := q1.out rs f1 es
          cases o with
          | tup h1 h2 h3 =>
            refine ⟨_, rfl, ⟨_, h1⟩, h W _ H1 (FxE.shrink rs f1) (itOk_tup h1 h2 (by rw [List.length_map]; exact h3.length) fun i x ex => ?_)⟩
            rw [List.getElem?_map] at ex
            obtain ⟨d, e1, e2⟩ := Option.map_eq_some_iff.mp ex
            subst e2
            exact h3.get e1
        | _ => exact h.elim
      | fns is =>
        refine .inr ⟨W, ρ, rs, ?_⟩
        rw [e]
        intro W1 v H1 f1 q1
        obtain ⟨a, ea, h1, h2⟩ := (show RpD X.K fa W H1 (.fns is) v from q1.out rs f1 es)
        refine ⟨a, ea, ⟨_, h1⟩, h W _ H1 (FxE.shrink rs f1) (itOk_tup h1 (by rw [List.length_map]; exact h2) (by rw [List.length_map, List.length_map]) fun i x ex => ?_)⟩
        rw [List.getElem?_map] at ex
        obtain ⟨d, e1, e2⟩ := Option.map_eq_some_iff.mp ex
        subst e2
        exact ⟨V.ref (fa d), by rw [List.getElem?_map, e1]; rfl, rfl⟩
      | _ => exact h.elim
theorem OcI.rngI {C : Ctx} {W W0 W0' W1 : Wd} {ρ ρ1 : Env} {σ : L2.St} {H H1 : Hp} {R : It → Hp → Prop} {r s : RV} {v u : V} (rs : RS C.K C.fa W ρ σ H) (f : FxE C.K C.fa W ρ σ H W1 ρ1 H1) (qr : RpR C.K C.fa W0 W1 ρ1 σ H1 r v ∨ (r = shP (.int 0) ∧ v = .int 0)) (qs : RpR C.K C.fa W0' W1 ρ1 σ H1 s u)
    (h : OcI C W ρ σ H (fun _ _ _ J H' => R J H') (Mp.rngI r s ρ1)) : ∃ i j : Int, v = .int i ∧ u = .int j ∧ (-(2 ^ 62) ≤ i ∧ i < 2 ^ 62 ∧ -(2 ^ 62) ≤ j ∧ j < 2 ^ 62) ∧ R (Itr i (j - i).toNat) H1 := by
  unfold Mp.rngI at h
  have ro1 : ∀ i : Int, derefP ρ1 r = some (.int i) → v = .int i := fun i e => by
    rcases qr with q | ⟨q1, q2⟩
    · exact ro_int (q.ro f.rs e)
    · subst q1 q2
      cases e; rfl
  cases e1 : derefP ρ1 r with
  | none => rw [e1] at h; exact h.elim
  | some x =>
    cases e2 : derefP ρ1 s with
    | none => rw [e1, e2] at h; cases x <;> exact h.elim
    | some y =>
      rw [e1, e2] at h
      cases x with
      | int i =>
        cases y with
        | int j =>
          simp only at h
          split at h
          · rename_i hz
            simp only [Bool.and_eq_true, smallR, decide_eq_true_eq] at hz
            obtain ⟨⟨⟨a1, a2⟩, a3, a4⟩, a5⟩ := hz
            exact ⟨i, j, ro1 i e1, ro_int (qs.ro f.rs e2), ⟨by omega, by omega, by omega, by omega⟩, h W1 _ H1 f (itOk_range i _ a5)⟩
          · exact h.elim
        | _ => exact h.elim
      | _ => cases y <;> exact h.elim
theorem it_rng {q : Pr} (hg : Gl X "range") (hm : X.mg "range" = none) (d : Der X fa ca Wx a q) : PI X tg (.Call (.Name "range" p) [a] [] pos) (rdI (cx X fa ca Wx) fun ρ => (q.v ρ).bind fun r ρ1 => rngI (shP (.int 0)) r ρ1) := by
  refine PI.mono (pi_range1 hg hm (pa_cons d.v pa_nil (plain_star d.sy [] _)) (plain_star d.sy [] _)) fun σ H R ⟨W, ρ, rs, h⟩ => ?_
  refine rd_thenI rs h fun W1 ρ1 H1 r v f1 q1 h1 => ?_
  obtain ⟨i, j, e1, e2, b, q⟩ := OcI.rngI (v := .int 0) (W0 := W) (W0' := Ex_ H) rs f1 (.inr ⟨rfl, rfl⟩) q1 h1
  cases e1
  rw [Int.sub_zero] at q
  exact ⟨j, by rw [e2], b.2.2.1, b.2.2.2, q⟩
theorem it_rng2 {q q' : Pr} (hg : Gl X "range") (hm : X.mg "range" = none) (d : Der X fa ca Wx a q) (d' : Der X fa ca Wx b q') : PI X tg (.Call (.Name "range" p) [a, b] [] pos) (rdI (cx X fa ca Wx) fun ρ => (q.v ρ).bind fun r ρ1 => (q'.v ρ1).bind fun s ρ2 => rngI r s ρ2) := by
  refine PI.mono (pi_range2 hg hm (pa_cons d.v (pa_cons d'.v pa_nil (plain_star d'.sy [] _)) (plain_star d.sy _ _)) (by rw [plain_star d.sy, plain_star d'.sy]; rfl) (plain_star d'.sy [] _)) fun σ H R ⟨W, ρ, rs, h⟩ => ?_
  refine rd_thenI rs h fun W1 ρ1 H1 r v f1 q1 h1 => rd_thenI f1.rs (h1.step f1) fun W2 ρ2 H2 s u f2 q2 h2 => ?_
  obtain ⟨i, j, e1, e2, b, q⟩ := OcI.rngI f1.rs f2 (.inl (q1.pers f1.rs f2)) q2 h2
  exact ⟨i, j, by rw [e1, e2], b, q⟩
theorem it_zip {q q' : Pr} {elts : List Expr} {kk : Nat} {tpos : Pos} (hg : Gl X "zip") (hm : X.mg "zip" = none) (d : Der X fa ca Wx a q) (d' : Der X fa ca Wx b q') : PI X (.Tuple elts kk tpos) (.Call (.Name "zip" p) [a, b] [] pos) (rdI (cx X fa ca Wx) fun ρ => (q.v ρ).bind fun r ρ1 => (q'.v ρ1).bind fun s ρ2 => zipI r s ρ2) := by
  refine PI.mono (pi_zipA hg hm (pa_cons d.v (pa_cons d'.v pa_nil (plain_star d'.sy [] _)) (plain_star d.sy _ _)) (plain_star d.sy _ _) (star_all pos (by rw [List.all_cons, d'.sy]; rfl))) fun σ H R ⟨W, ρ, rs, h⟩ => ?_
  refine rd_thenI rs h fun W1 ρ1 H1 r v f1 q1 h1 => rd_thenI2 f1 h1 fun W2 ρ2 H2 s u f2 q2 h2 => ?_
  have f := f1.trans f2
  have q1' := q1.pers f1.rs f2
  have q2' := q2.base f1.dm
  unfold zipI at h2
  cases e1 : shD r with
  | none => rw [e1] at h2; exact h2.elim
  | some x =>
    cases e2 : shD s with
    | none => rw [e1, e2] at h2; cases x <;> first | exact h2.elim | (rename_i z; cases z <;> exact h2.elim)
    | some y =>
      rw [e1, e2] at h2
      have o1 := q1'.out rs f e1
      have o2 := q2'.out rs f e2
      cases x with
      | d x =>
        cases y with
        | d y =>
          cases x with
          | list ds =>
            cases y with
            | list es =>
              have o1 : Rp X.K W H2 (.list ds) v := o1
              have o2 : Rp X.K W H2 (.list es) u := o2
              cases o1 with
              | lst a1 a2 a3 a4 =>
                cases o2 with
                | lst b1 b2 b3 b4 => exact ⟨_, _, _, _, rfl, .inl ⟨.inl (.inl a1), .inl (.inl b1), h2 W _ H2 (FxE.shrink rs f) (itOk_zip a1 a2 a3 a4 b1 b2 b4)⟩⟩
            | _ => exact h2.elim
          | tuple ds =>
            cases y with
            | tuple es =>
              have o1 : Rp X.K W H2 (.tuple ds) v := o1
              have o2 : Rp X.K W H2 (.tuple es) u := o2
              cases o1 with
              | tup a1 a3 a4 =>
                cases o2 with
                | tup b1 b3 b4 => exact ⟨_, _, _, _, rfl, .inr ⟨a1, b1, h2 W _ H2 (FxE.shrink rs f) (itOk_zipT a1 a3 a4 b1 b4)⟩⟩
            | _ => exact h2.elim
          | _ => cases y <;> exact h2.elim
        | _ => cases x <;> exact h2.elim
      | _ => cases y <;> exact h2.elim
end
end Mp

set_option maxRecDepth 100000
set_option maxHeartbeats 4000000
/-! MpE: enumerate over a tuple. -/
namespace Mp
open PySem PySem.Spec PyProof.Rows L2
theorem meets_enum1 {v : Value} {o : Obj} {H : Heap → Prop} (B : Begins v o H) :
    Meets (Builtin.«enumerate.__new__» ⟨[.type "enumerate", v], []⟩) (fun _ R s => H s.heap ∧
      R (.ok (.ret (.ref (s.heap.push o).objs.size))) { s with heap := (s.heap.push o).push { cls := .type "enumerate", data := .fields #[.none, .bool false, .ref s.heap.objs.size, rawInt 0, .none, .none] } }) :=
  .of_wp fun prog w A R s h => by
    obtain ⟨hp, g, d, tk, os⟩ := s; obtain ⟨h1, h⟩ := h
    have hsub := sub_enumerate
    have q1 : ∀ {A' : Around} {E : Value → Shared → Prop} {Q : Value → Shared → Prop}, Q (.ref hp.objs.size) ⟨hp.push o, g, d, tk, os⟩ → wpAny (model prog w) A' (pyIter v) Q E ⟨hp, g, d, tk, os⟩ :=
      fun q => B.iter prog w _ _ ⟨hp, g, d, tk, os⟩ _ h1 q
    wp_walk using q1
    refine wpAny_stack_any fun st => wpAny_pure ?_
    split
    · rename_i c _ _ _ _ _
      cases (c == Value.type "enumerate")
      · wp_walk using q1
        exact ⟨_, rfl, h⟩
      · wp_walk using q1
        exact ⟨_, rfl, h⟩
    · wp_walk using q1
      exact ⟨_, rfl, h⟩
theorem call_enum1 {prog : Program} {w : World} {A : Around} {E : Value → Shared → Prop} {s : Shared} {v : Value} {o : Obj} {H : Heap → Prop} {Q : Value → Shared → Prop} (B : Begins v o H) (h1 : H s.heap)
    (h : ∀ h', IsEnum h' (s.heap.objs.size + 1) s.heap.objs.size 0 .none → h'.get? s.heap.objs.size = some o → h'.objs.size = s.heap.objs.size + 2 →
      (∀ b o, s.heap.get? b = some o → h'.get? b = some o) → Q (.ref (s.heap.objs.size + 1)) { s with heap := h' }) :
    wpAny (model prog w) A (call (.type "enumerate") [v]) Q E s := by
  refine callType_new F.called_enumerate (by decide) (F.typeCall_enumerate_1 _) (F.newCall_enumerate_1 _) (fun obj => F.args_object_init_2 obj _) F.entry_enumerate_new
    (meets_enum1 B) ⟨h1, ?_⟩
  have hz : (s.heap.push o).objs.size = s.heap.objs.size + 1 := Heap.size_push ..
  show _ ∧ _
  rw [hz]
  have he : IsEnum ((s.heap.push o).push { cls := .type "enumerate", data := .fields #[.none, .bool false, .ref s.heap.objs.size, rawInt 0, .none, .none] }) (s.heap.objs.size + 1) s.heap.objs.size 0 .none := by
    have := Heap.get?_push_size (s.heap.push o) (o := { cls := .type "enumerate", data := .fields #[.none, .bool false, .ref s.heap.objs.size, rawInt 0, .none, .none] }) rfl
    rw [hz] at this; exact this
  refine ⟨⟨_, he, rfl⟩, h _ he (Heap.get?_push_of_some _ (Heap.get?_push_size _ B.free)) (by rw [Heap.size_push, hz]) fun b o x => Heap.get?_push_of_some _ (Heap.get?_push_of_some _ x)⟩
/-- the tuple at a, each item in a new pair -/
def IteT (K : PySem.W.Frag) (a : Addr) : It :=
  ⟨fun i H => ∃ (xs : List V) (x : V), SqT K H a xs ∧ xs[i]? = some x, fun i H v H' => ∃ T x, v = .ref T ∧ H T = none ∧ H' = upd H T (.tup [.int (i : Nat), x]) ∧ ∀ xs, SqT K H a xs → xs[i]? = some x, fun i H => ∃ xs : List V, SqT K H a xs ∧ xs.length ≤ i⟩
theorem turn_enumT {P : Program} {w : World} {K : PySem.W.Frag} {elts : List Expr} {kk : Nat} {tpos : Pos} (a e it : Addr) :
    Turn P w K (.Tuple elts kk tpos) (IteT K a) [e, it] e (fun i h => (∃ old, IsEnum h e it ((i : Nat) : Int) old) ∧ h.IsTupleIter it a i ∧ e ≠ it ∧ a ≠ it ∧ e ≠ a) where
  mem := by simp
  obj := fun i h st b hb => by
    obtain ⟨⟨old, he⟩, ⟨o, ho, hc, hd⟩, _⟩ := st
    have e' : b = e ∨ b = it := by simpa using hb
    rcases e' with z | z
    · rw [z]; exact ⟨_, he, fun v q => nomatch q⟩
    · rw [z]; exact ⟨o, ho, fun v q => by rw [hd] at q; cases q⟩
  keep := fun i h h' st k => let ⟨⟨old, he⟩, hi, hne⟩ := st; ⟨⟨old, k e (by simp) _ he⟩, hi.at fun o q => k it (by simp) o q, hne⟩
  item := by
    intro X hP hw hK hc i pins s σ H E I hf st hg
    subst hP hw hK
    obtain ⟨⟨old, he⟩, hit, hne, hai, hea⟩ := st
    obtain ⟨xs, x, hq, hx⟩ := hg
    obtain ⟨its, rv, p, hz⟩ := I.tuple hq
    obtain ⟨u, hu, ru⟩ := rv.get hx
    have hel : e < s.heap.objs.size := Heap.lt_size he
    have hil : it < s.heap.objs.size := by obtain ⟨_, q, _⟩ := hit; exact Heap.lt_size q
    have hlt : i < its.toArray.size := by have := (List.getElem?_eq_some_iff.mp hu).1; simpa using this
    have hef : e ∉ [it, a] := by simp; exact ⟨hne, hea⟩
    refine wpAny_pyNext_enum_itemD (Draws.tuple (A := X.A.in1) (I.ok.hd hc) it a hai its.toArray) he ⟨hit, p⟩ hlt hne hef fun x' h' tk hP ho hit' hT hsz hk => ?_
    have hxu : x' = u := by
      have h1 : its.toArray[i]? = some x' := hP
      have h2 : its.toArray[i]? = some u := by simpa using hu
      rw [h1] at h2; exact Option.some.inj h2
    subst hxu
    refine ⟨_, rfl, wpAny_letOwnedTupleGo_enum (s := { s with heap := h', toks := tk + 1 }) ho fun h'' he' sb => ?_⟩
    have hT2 : h''.get? s.heap.objs.size = some { cls := .type "tuple", data := .seq #[.int i tk, x'] } := (sb.2 _ (Nat.ne_of_gt hel)).trans hT
    have new : ObjOk X.prog X.w (upd H s.heap.objs.size (.tup [.int (i : Nat), x])) h'' s.heap.objs.size (.tup [.int (i : Nat), x]) :=
      ⟨by show 2 ≤ sizeLine; decide, [.int i tk, x'], .cons ⟨_, rfl⟩ (.cons ru .nil), ⟨_, hT2, rfl, _, rfl⟩⟩
    have I1 : Inv X pins σ (upd H s.heap.objs.size (.tup [.int (i : Nat), x])) { s with heap := h'', toks := tk + 1 } :=
      I.turnedNew (ch := [e, it]) (fun b ob hb q => (sb.2 b (fun z => hb (by simp [z]))).trans (hk b ob (fun z => hb (by simp [z])) (fun z => hb (by simp [z])) q)) hf (Nat.le_refl _) new
    refine ⟨.ref s.heap.objs.size, _, I1, rfl, ⟨_, x, rfl, I.hok.fresh (Nat.le_refl _), rfl, fun ys hy => by rw [I.tuple_inj hy hq]; exact hx⟩, ⟨⟨x', ?_⟩, hit'.1.at fun o q => (sb.2 it (Ne.symm hne)).trans q, hne, hai, hea⟩, fun b hb => ?_⟩
    · have e1 : ((i + 1 : Nat) : Int) = (i : Int) + 1 := by omega
      rw [e1]; exact he'
    · have hb' : b < s.heap.objs.size := by
        have e' : b = e ∨ b = it := by simpa using hb
        rcases e' with z | z
        · rw [z]; exact hel
        · rw [z]; exact hil
      rw [upd_ne (Nat.ne_of_lt hb')]
      exact (hf b hb).1
  done := by
    intro X hP hw hK hc i pins s σ H E I hf st hg
    subst hP hw hK
    obtain ⟨⟨old, he⟩, hit, hne, hai, hea⟩ := st
    obtain ⟨xs, hq, hx⟩ := hg
    obtain ⟨its, rv, p, hz⟩ := I.tuple hq
    obtain ⟨f0, f1, f2, f3, f4, f5⟩ := hf it (by simp)
    have hl := rv.length
    have D := Draws.tuple (prog := X.prog) (w := X.w) (A := X.A.in1) (I.ok.hd hc) it a hai its.toArray
    have fin : ∀ h', Heap.ExtBut it s.heap h' → (none : Option Value) = none ∧ Inv X pins σ H { s with heap := h' } := fun h' eb => ⟨rfl, I.turned (t' := s.toks) (fun b o hb q => eb b o hb q) f0 f1 f3 f4 f5⟩
    have hT : s.TypeIs (.ref e) "enumerate" := ⟨_, he, rfl⟩
    unfold pyNext
    refine wpAny_bind (wpAny_attempt (wpAny_callSpecial?_slot (name := Str.ofString "__next__") hT F.slot_enumerate_next
      (wpAny_call_entry F.slot_enumerate_next hT F.entry_enumerate_next ?_ (F.args_enumerate_next_1 _))))
    show wpAny _ _ (field (.ref e) 2 >>= _) _ _ _
    refine wpAny_bind (wpAny_field he rfl (x := .ref it) rfl ?_)
    refine wpAny_bind (wpAny_nextOf_tuple_end (A := X.A.in1) (I.ok.hd hc) hit p (by simp; omega) fun h' x he' hx' => ?_)
    obtain ⟨o, ho, hc⟩ := hx'
    refine wpAny_bind (wpAny_isInstance (T := "StopIteration") (b := true) ⟨o, ho, hc⟩ isSubtype_stop ?_)
    exact wpAny_pure (fin _ he')
  self := fun A i s Q E st h => let ⟨⟨_, he⟩, _⟩ := st; wpAny_pyIter_enum he h
def iEnumT (K : PySem.W.Frag) (ta : TA) : TI := fun σ H R => ta σ H fun vs H1 => ∃ a xs, vs = [.ref a] ∧ ((SqL K H1 a xs ∧ R (Ite K a) H1) ∨ (SqT K H1 a xs ∧ R (IteT K a) H1))
theorem pi_enumT {X : Cx} {e : Expr} {ta : TA} {p pos tpos : Pos} {elts : List Expr} {kk : Nat} (hg : Gl X "enumerate") (hm : X.mg "enumerate" = none) (ha : PA X [e] ta) (hs : starEach [e] X.env = [(false, eval e X.env)] := by rfl) :
    PI X (.Tuple elts kk tpos) (.Call (.Name "enumerate" p) [e] [] pos) (iEnumT X.K ta) := by
  refine ⟨fun pins s σ H R I h => ?_⟩
  refine Call_ (ld_blt I hg hm boot_enumerate (PyProof.Rows.callWith_type1 (thn (ha.run pos pins s σ H _ I h) fun us s1 ⟨vs, H1, I1, r1, q1⟩ => ?_) hs rfl))
  obtain ⟨a, xs, ex, hq⟩ := q1
  subst ex
  cases r1 with
  | cons r rr =>
    cases rr
    cases r
    rcases hq with ⟨hq, q⟩ | ⟨hq, q⟩
    · obtain ⟨its, rv, p', hz⟩ := I1.list hq
      refine call_enumerate_list p'.isList fun h' he hit hsz hk => wpAny_pyIter_enum he ?_
      have I2 : Inv X pins σ H1 { s1 with heap := h' } := I1.kept (t' := s1.toks) hk
      refine ⟨s1.heap.objs.size + 1, [s1.heap.objs.size + 1, s1.heap.objs.size], _, _, H1, rfl, I2, turn_enum a (s1.heap.objs.size + 1) s1.heap.objs.size, ⟨⟨.none, he⟩, hit, Nat.succ_ne_self _⟩, fun b hb => ?_, q⟩
      have e' : b = s1.heap.objs.size + 1 ∨ b = s1.heap.objs.size := by simpa using hb
      have hle : s1.heap.objs.size ≤ b := by
        rcases e' with z | z
        · rw [z]; exact Nat.le_add_right _ _
        · rw [z]; exact Nat.le_refl _
      exact I1.fpOk hle (I1.hok.fresh hle)
    · obtain ⟨its, rv, p', hz⟩ := I1.tuple hq
      have hal : a < s1.heap.objs.size := by obtain ⟨o, ho, _⟩ := p'; exact Heap.lt_size ho
      refine call_enum1 (begins_tuple a its.toArray) p' fun h' he hit hsz hk => wpAny_pyIter_enum he ?_
      have I2 : Inv X pins σ H1 { s1 with heap := h' } := I1.kept (t' := s1.toks) hk
      refine ⟨s1.heap.objs.size + 1, [s1.heap.objs.size + 1, s1.heap.objs.size], _, _, H1, rfl, I2, turn_enumT a (s1.heap.objs.size + 1) s1.heap.objs.size, ⟨⟨.none, he⟩, ⟨_, hit, rfl, rfl⟩, Nat.succ_ne_self _, Nat.ne_of_lt hal, Nat.ne_of_gt (Nat.lt_succ_of_lt hal)⟩, fun b hb => ?_, q⟩
      have e' : b = s1.heap.objs.size + 1 ∨ b = s1.heap.objs.size := by simpa using hb
      have hle : s1.heap.objs.size ≤ b := by
        rcases e' with z | z
        · rw [z]; exact Nat.le_add_right _ _
        · rw [z]; exact Nat.le_refl _
      exact I1.fpOk hle (I1.hok.fresh hle)
section
variable {K : PySem.W.Frag} {fa : FA} {W : Wd} {H : Hp}
theorem itOk_enumT {a : Addr} {xs : List V} {ds : List P} (h : SqT K H a xs) (z : xs.length ≤ sizeLine) (r : RpA K W H ds xs) : ItOk K fa W H (IteT K a) (enumL 0 ds) := by
  have hl := r.length
  refine ⟨by rw [enumL_len]; rw [sizeLine_eq] at z; omega, fun W2 H2 s dm => ⟨fun i x e => ?_, fun i hi => ?_⟩⟩
  · obtain ⟨y, e1, e2⟩ := enumL_get e
    obtain ⟨v, e3, r3⟩ := r.get e1
    have h2 := s.sqT h
    refine ⟨⟨xs, v, h2, e3⟩, fun u H3 hy => ?_⟩
    obtain ⟨T, x', eu, hT, eH, hx⟩ := hy
    have := hx xs h2
    rw [e3] at this
    cases this
    subst eu eH e2
    refine ⟨grow_upd hT, ?_⟩
    rw [show ((0 + i : Nat) : Int) = ((i : Nat) : Int) by simp]
    exact rp_pair dm (.int _) (s.rp r3) hT
  · rw [enumL_len] at hi
    exact ⟨xs, s.sqT h, by omega⟩
end
section
variable {X : Cx} {fa ca : FA} {Wx : WX} {a b c tg : Expr} {pos p : Pos}
theorem it_enum {q : Pr} {elts : List Expr} {kk : Nat} {tpos : Pos} (hg : Gl X "enumerate") (hm : X.mg "enumerate" = none) (d : Der X fa ca Wx a q) : PI X (.Tuple elts kk tpos) (.Call (.Name "enumerate" p) [a] [] pos) (rdI (cx X fa ca Wx) fun ρ => (q.v ρ).bind enumI) := by
  refine PI.mono (pi_enumT hg hm (pa_cons d.v pa_nil (plain_star d.sy [] _)) (plain_star d.sy [] _)) fun σ H R ⟨W, ρ, rs, h⟩ => ?_
  refine rd_thenI rs h fun W1 ρ1 H1 r v f1 q1 h1 => ?_
  unfold enumI at h1
  cases e1 : shD r with
  | none => rw [e1] at h1; exact h1.elim
  | some x =>
    rw [e1] at h1
    have o1 := q1.out rs f1 e1
    cases x with
    | d x =>
      cases x with
      | list ds =>
        have o1 : Rp X.K W H1 (.list ds) v := o1
        cases o1 with
        | lst a1 a2 a3 a4 => exact ⟨_, _, rfl, .inl ⟨.inl (.inl a1), h1 W _ H1 (FxE.shrink rs f1) (itOk_enum a1 a2 a3 a4)⟩⟩
      | tuple ds =>
        have o1 : Rp X.K W H1 (.tuple ds) v := o1
        cases o1 with
        | tup a1 a2 a3 => exact ⟨_, _, rfl, .inr ⟨a1, h1 W _ H1 (FxE.shrink rs f1) (itOk_enumT a1 a2 a3)⟩⟩
      | _ => exact h1.elim
    | _ => exact h1.elim
end
end Mp

set_option maxRecDepth 100000
set_option maxHeartbeats 4000000
/-! Mp10: targets, list comprehensions. -/
namespace Mp
open PySem PySem.Spec PyProof.Rows L2

/-! ### slots set by targets -/
/-- from slots to slots by stores of values -/
def setNσ : List (Nat × Str) → List V → L2.St → L2.St
  | (i, _) :: r, v :: vs, σ => setNσ r vs (σ.set i (some v))
  | _, _, σ => σ
def Tg.ix : Tg → List Nat
  | .nm i _ => [i]
  | .tp ts => ts.map (·.1)

section
variable {K : PySem.W.Frag} {fa : FA} {W W0 W1 W2 : Wd} {ρ ρ0 ρ1 ρ2 : Env} {σ : L2.St} {H H0 H1 H2 : Hp} {Q : VK} {v : V}
/-- a slot takes a value -/
theorem RS.setVal (rs : RS K fa W ρ σ H) {i : Nat} {x : D} (r : RpD K fa W H x v) : RS K fa W (ρ.set i (.val x)) (σ.set i (some v)) H := by
  refine ⟨by rw [List.length_set, List.length_set]; exact rs.len, fun j y e => ?_, fun j l y e => ?_, fun j k l l' y y' a e1 e2 e3 e4 => ?_, rs.dom⟩
  · by_cases hj : i = j
    · subst hj
      by_cases hi : i < ρ.length
      · rw [List.getElem?_set_self hi] at e
        cases e
        exact ⟨v, by rw [List.getElem?_set_self (by rw [← rs.len]; exact hi)], r⟩
      · rw [List.getElem?_eq_none (by rw [List.length_set]; omega)] at e
        cases e
    · rw [List.getElem?_set_ne hj] at e ⊢
      exact rs.val j y e
  · by_cases hj : i = j
    · subst hj
      by_cases hi : i < ρ.length
      · rw [List.getElem?_set_self hi] at e; cases e
      · rw [List.getElem?_eq_none (by rw [List.length_set]; omega)] at e
        cases e
    · rw [List.getElem?_set_ne hj] at e ⊢
      exact rs.own j l y e
  · have ne : ∀ m l y, (ρ.set i (Sl.val x))[m]? = some (Sl.own l y) → i ≠ m := fun m l y e z => by
      subst z
      by_cases hi : i < ρ.length
      · rw [List.getElem?_set_self hi] at e; cases e
      · rw [List.getElem?_eq_none (by rw [List.length_set]; omega)] at e
        cases e
    have h1 := ne j l y e1
    have h2 := ne k l' y' e2
    rw [List.getElem?_set_ne h1] at e1 e3
    rw [List.getElem?_set_ne h2] at e2 e4
    exact rs.inj j k l l' y y' a e1 e2 e3 e4
theorem Fx.setVal (rs : RS K fa W ρ σ H) {i : Nat} {x : D} (r : RpD K fa W H x v) (nl : ∀ y, ρ[i]? ≠ some (Sl.own true y)) : Fx K fa W ρ σ H W (ρ.set i (.val x)) (σ.set i (some v)) H := by
  refine ⟨rs.setVal r, fun _ _ e _ => e, fun a z => ?_, fun a w => .inl w, fun a w => .inl w, fun _ e => e, fun j y e => ?_⟩
  · obtain ⟨j, l, y, e1, e2⟩ := z
    by_cases hj : i = j
    · subst hj
      by_cases hi : i < ρ.length
      · rw [List.getElem?_set_self hi] at e1; cases e1
      · rw [List.getElem?_eq_none (by rw [List.length_set]; omega)] at e1
        cases e1
    · rw [List.getElem?_set_ne hj] at e1 e2
      exact .inl ⟨j, l, y, e1, e2⟩
  · have hj : i ≠ j := fun z => by subst z; exact nl y e
    rw [List.getElem?_set_ne hj, List.getElem?_set_ne hj]
    exact ⟨y, e, rfl⟩
theorem setN_fx : ∀ {ts : List (Nat × Str)} {xs : List P} {vs : List V} {ρ ρ' : Env} {σ : L2.St}, RS K fa W ρ σ H → RpA K W H xs vs → setN ts xs ρ = some ρ' → Fx K fa W ρ σ H W ρ' (setNσ ts vs σ) H
  | [], [], _, ρ, ρ', σ, rs, .nil, e => by cases e; exact Fx.refl rs
  | (i, x) :: ts, y :: xs, _, ρ, ρ', σ, rs, .cons r t, e => by
    unfold setN at e
    split at e
    · cases e
    · rename_i s hs hne
      have f := Fx.setVal (i := i) (x := .d y) rs r (fun z hz => by
        rw [hz] at hne; cases hne; exact hs z rfl)
      exact Fx.trans rs f (setN_fx f.rs t e)
    · cases e

/-- only the slots of the target differ -/
def SetOn (tg : Tg) (σ σ' : L2.St) : Prop := σ'.length = σ.length ∧ ∀ j, j ∉ tg.ix → σ'[j]? = σ[j]?
theorem setNσ_len : ∀ (ts : List (Nat × Str)) (vs : List V) (σ : L2.St), (setNσ ts vs σ).length = σ.length
  | [], _, σ => by unfold setNσ; rfl
  | (i, x) :: ts, [], σ => by unfold setNσ; rfl
  | (i, x) :: ts, v :: vs, σ => by unfold setNσ; rw [setNσ_len, List.length_set]
theorem setNσ_get : ∀ (ts : List (Nat × Str)) (vs : List V) (σ : L2.St) (j : Nat), j ∉ ts.map (·.1) → (setNσ ts vs σ)[j]? = σ[j]?
  | [], _, σ, j, _ => by unfold setNσ; rfl
  | (i, x) :: ts, [], σ, j, _ => by unfold setNσ; rfl
  | (i, x) :: ts, v :: vs, σ, j, h => by
    rw [List.map_cons, List.mem_cons] at h
    unfold setNσ
    rw [setNσ_get ts vs _ j (fun z => h (.inr z)), List.getElem?_set_ne (fun z => h (.inl z.symm))]
def gTg (C : Ctx) (tg : Tg) : TG := fun v σ H Q => ∃ W ρ x ρ', RS C.K C.fa W ρ σ H ∧ RpD C.K C.fa W H x v ∧ setTg tg x ρ = some ρ' ∧ ∀ σ', SetOn tg σ σ' → Fx C.K C.fa W ρ σ H W ρ' σ' H → Q σ' H
theorem PG.mono {X : Cx} {e : Expr} {t t' : TG} (h : PG X e t) (hi : ∀ v σ H Q, t' v σ H Q → t v σ H Q) : PG X e t' := ⟨fun pins s σ H v u Q I r q => h.run pins s σ H v u Q I r (hi _ _ _ _ q)⟩
theorem PGs.mono {X : Cx} {e : List Expr} {t t' : TGs} (h : PGs X e t) (hi : ∀ v σ H Q, t' v σ H Q → t v σ H Q) : PGs X e t' := ⟨fun pins s σ H v u Q I r q => h.run pins s σ H v u Q I r (hi _ _ _ _ q)⟩
/-- a name that may be stored, in slot i -/
structure StN (X : Cx) (i : Nat) (x : Str) : Prop where
  hi : X.N[i]? = some x
  loc : Loc X.env.scope x
  hf : X.fn x = true ∨ X.env.scope.names.lookup x = some .local
theorem tg_nm {X : Cx} {fa ca : FA} {Wx : WX} {i : Nat} {x : Str} {pos : Pos} (nd : X.N.Nodup) (h : StN X i x) : PG X (.Name x pos) (gTg (cx X fa ca Wx) (.nm i x)) := by
  refine PG.mono (pg_name nd h.hi h.loc h.hf) fun v σ H Q ⟨W, ρ, y, ρ', rs, r, e, q⟩ => ?_
  have e : (match ρ[i]? with | some (Sl.own true _) => none | some _ => some (ρ.set i (.val y)) | none => none) = some ρ' := e
  split at e
  · cases e
  · rename_i s hs hne
    cases e
    refine q _ ⟨by rw [List.length_set], fun j hj => ?_⟩ (Fx.setVal rs r fun z hz => by rw [hz] at hne; cases hne; exact hs z rfl)
    have : i ≠ j := fun z => hj (by rw [z]; exact List.mem_singleton.mpr rfl)
    rw [List.getElem?_set_ne this]
  · cases e
def gNs (ts : List (Nat × Str)) : TGs := fun vs σ H Q => vs.length = ts.length ∧ Q (setNσ ts vs σ) H
inductive NmsE (X : Cx) : List (Nat × Str) → List Expr → Prop
  | nil : NmsE X [] []
  | cons {i x p ts es} : StN X i x → NmsE X ts es → NmsE X ((i, x) :: ts) (.Name x p :: es)
theorem NmsE.len {X : Cx} {ts : List (Nat × Str)} {es : List Expr} (h : NmsE X ts es) : (assignEach es X.env).length = ts.length ∧ (assignEach es X.env).findIdx? (·.1) = none := by
  induction h with
  | nil => exact ⟨rfl, rfl⟩
  | @cons i x p ts es s t ih =>
    have e : assignEach (.Name x p :: es) X.env = (false, assign (.Name x p) X.env) :: assignEach es X.env := rfl
    refine ⟨?_, ?_⟩
    · rw [e, List.length_cons, ih.1, List.length_cons]
    · rw [e, List.findIdx?_cons, ih.2]; rfl
theorem pgs_nms {X : Cx} (nd : X.N.Nodup) {ts : List (Nat × Str)} {es : List Expr} (h : NmsE X ts es) : PGs X es (gNs ts) := by
  induction h with
  | nil =>
    refine PGs.mono pgs_nil fun vs σ H Q ⟨hl, q⟩ => ?_
    cases vs with
    | nil => exact ⟨rfl, q⟩
    | cons _ _ => cases hl
  | cons s t ih =>
    refine PGs.mono (pgs_cons (pg_name nd s.hi s.loc s.hf) ih) fun vs σ H Q ⟨hl, q⟩ => ?_
    cases vs with
    | nil => cases hl
    | cons v vs => exact ⟨v, vs, rfl, by simpa using hl, q⟩
theorem setN_len : ∀ {ts : List (Nat × Str)} {xs : List P} {ρ ρ' : Env}, setN ts xs ρ = some ρ' → xs.length = ts.length
  | [], [], _, _, _ => rfl
  | [], _ :: _, _, _, e => by unfold setN at e; cases e
  | _ :: _, [], _, _, e => by unfold setN at e; cases e
  | (i, x) :: ts, y :: xs, ρ, ρ', e => by
    unfold setN at e
    split at e
    · cases e
    · rw [List.length_cons, List.length_cons, setN_len e]
    · cases e
theorem tg_tp {X : Cx} {fa ca : FA} {Wx : WX} {ts : List (Nat × Str)} {es : List Expr} {k : Nat} {pos : Pos} (hc : X.calm = true) (nd : X.N.Nodup) (h : NmsE X ts es) : PG X (.Tuple es k pos) (gTg (cx X fa ca Wx) (.tp ts)) := by
  refine PG.mono (pg_tup hc (pgs_nms nd h) (n := ts.length) h.len.1 h.len.2) fun v σ H Q ⟨W, ρ, y, ρ', rs, r, e, q⟩ => ?_
  cases y with
  | d y =>
    cases y with
    | tuple xs =>
      have r : Rp X.K W H (.tuple xs) v := r
      cases r with
      | @tup a vs _ h1 h2 h3 =>
        have e : setN ts xs ρ = some ρ' := e
        have hl := setN_len e
        have hv := h3.length
        refine ⟨a, vs, rfl, h1, by omega, by omega, q _ ⟨setNσ_len ts vs σ, fun j hj => setNσ_get ts vs σ j hj⟩ (setN_fx rs h3 e)⟩
    | _ => cases e
  | _ => cases e

/-! ### blocks -/
section
variable {K : PySem.W.Frag} {fa : FA} {W W0 W1 W2 : Wd} {ρ ρ0 ρ1 ρ2 : Env} {σ σ' : L2.St} {H H0 H1 H2 : Hp} {Q : VK} {v : V}
theorem wipeE_len (ρ : Env) : ∀ vs : List Nat, (wipeE ρ vs).length = ρ.length
  | [] => rfl
  | v :: vs => by unfold wipeE; rw [List.length_set, wipeE_len ρ vs]
theorem wipeE_out {i : Nat} : ∀ {vs : List Nat}, i ∉ vs → (wipeE ρ vs)[i]? = ρ[i]?
  | [], _ => rfl
  | v :: vs, h => by
    unfold wipeE
    rw [List.mem_cons] at h
    rw [List.getElem?_set_ne (fun z => h (.inl z.symm)), wipeE_out fun z => h (.inr z)]
theorem wipeE_in {i : Nat} : ∀ {vs : List Nat}, i ∈ vs → i < ρ.length → (wipeE ρ vs)[i]? = some .un
  | v :: vs, h, hi => by
    unfold wipeE
    by_cases e : v = i
    · subst e
      rw [List.getElem?_set_self (by rw [wipeE_len]; exact hi)]
    · rw [List.getElem?_set_ne e]
      rcases List.mem_cons.mp h with z | z
      · exact absurd z.symm e
      · exact wipeE_in z hi
theorem wipe_out' {i : Nat} : ∀ {vs : List Nat}, i ∉ vs → (wipe σ vs)[i]? = σ[i]?
  | [], _ => rfl
  | v :: vs, h => by
    unfold wipe
    rw [List.mem_cons] at h
    rw [List.getElem?_set_ne (fun z => h (.inl z.symm)), wipe_out' fun z => h (.inr z)]
theorem wipe_in' {i : Nat} : ∀ {vs : List Nat}, i ∈ vs → i < σ.length → (wipe σ vs)[i]? = some none
  | v :: vs, h, hi => by
    unfold wipe
    by_cases e : v = i
    · subst e
      rw [List.getElem?_set_self (by rw [wipe_length]; exact hi)]
    · rw [List.getElem?_set_ne e]
      rcases List.mem_cons.mp h with z | z
      · exact absurd z.symm e
      · exact wipe_in' z hi
theorem wipe_eq {tg : Tg} {vs : List Nat} (s : SetOn tg (wipe σ vs) σ') (h : ∀ i ∈ tg.ix, i ∈ vs) : wipe σ' vs = wipe σ vs := by
  have hl : σ'.length = σ.length := by rw [s.1, wipe_length]
  apply List.ext_getElem?
  intro i
  by_cases hi : i ∈ vs
  · by_cases hlt : i < σ.length
    · rw [wipe_in' hi hlt, wipe_in' hi (by omega)]
    · rw [List.getElem?_eq_none (by rw [wipe_length]; omega), List.getElem?_eq_none (by rw [wipe_length]; omega)]
  · rw [wipe_out' hi, wipe_out' hi, s.2 i fun z => hi (h i z), wipe_out' hi]
theorem RS.wipe (rs : RS K fa W ρ σ H) (vs : List Nat) : RS K fa W (wipeE ρ vs) (wipe σ vs) H := by
  have key : ∀ {i : Nat} {s : Sl}, s ≠ .un → (wipeE ρ vs)[i]? = some s → i ∉ vs := fun {i s} n e hi => by
    have hlt : i < ρ.length := by
      have := (List.getElem?_eq_some_iff.mp e).1
      rwa [wipeE_len] at this
    rw [wipeE_in hi hlt] at e
    cases e; exact n rfl
  refine ⟨by rw [wipeE_len, wipe_length]; exact rs.len, fun i x e => ?_, fun i l x e => ?_, fun i j l l' x x' a e1 e2 e3 e4 => ?_, rs.dom⟩
  · have hi := key (by simp) e
    rw [wipeE_out hi] at e
    rw [wipe_out' hi]
    exact rs.val i x e
  · have hi := key (by simp) e
    rw [wipeE_out hi] at e
    rw [wipe_out' hi]
    exact rs.own i l x e
  · have h1 := key (by simp) e1
    have h2 := key (by simp) e2
    rw [wipeE_out h1] at e1
    rw [wipeE_out h2] at e2
    rw [wipe_out' h1] at e3
    rw [wipe_out' h2] at e4
    exact rs.inj i j l l' x x' a e1 e2 e3 e4
theorem Ow.wipe (h : RS K fa W ρ σ H) {vs : List Nat} {a : Addr} (o : Ow (wipeE ρ vs) (wipe σ vs) a) : Ow ρ σ a := by
  obtain ⟨i, l, x, e1, e2⟩ := o
  have hi : i ∉ vs := fun hi => by
    have hlt : i < ρ.length := by
      have := (List.getElem?_eq_some_iff.mp e1).1
      rwa [wipeE_len] at this
    rw [wipeE_in hi hlt] at e1
    cases e1
  rw [wipeE_out hi] at e1
  rw [wipe_out' hi] at e2
  exact ⟨i, l, x, e1, e2⟩
theorem backE_len (ρ0 ρ : Env) : ∀ vs : List Nat, (backE ρ0 ρ vs).length = ρ.length
  | [] => rfl
  | v :: vs => by unfold backE; rw [List.length_set, backE_len ρ0 ρ vs]
theorem backE_out {i : Nat} : ∀ {vs : List Nat}, i ∉ vs → (backE ρ0 ρ vs)[i]? = ρ[i]?
  | [], _ => rfl
  | v :: vs, h => by
    unfold backE
    rw [List.mem_cons] at h
    rw [List.getElem?_set_ne (fun z => h (.inl z.symm)), backE_out fun z => h (.inr z)]
theorem backE_in {i : Nat} : ∀ {vs : List Nat}, i ∈ vs → i < ρ.length → ρ.length = ρ0.length → (backE ρ0 ρ vs)[i]? = ρ0[i]?
  | v :: vs, h, hi, hl => by
    unfold backE
    by_cases e : v = i
    · subst e
      rw [List.getElem?_set_self (by rw [backE_len]; exact hi), List.getD_eq_getElem?_getD, List.getElem?_eq_getElem (by omega)]
      rfl
    · rw [List.getElem?_set_ne e]
      rcases List.mem_cons.mp h with z | z
      · exact absurd z.symm e
      · exact backE_in z hi hl
end
end
end Mp

set_option maxRecDepth 100000
set_option maxHeartbeats 4000000
/-! Mp11: list comprehensions. -/
namespace Mp
open PySem PySem.Spec PyProof.Rows L2

theorem setN_out : ∀ {ts : List (Nat × Str)} {xs : List P} {ρ ρ' : Env}, setN ts xs ρ = some ρ' → ∀ j, j ∉ ts.map (·.1) → ρ'[j]? = ρ[j]?
  | [], [], _, _, e, j, _ => by unfold setN at e; cases e; rfl
  | [], _ :: _, _, _, e, _, _ => by unfold setN at e; cases e
  | _ :: _, [], _, _, e, _, _ => by unfold setN at e; cases e
  | (i, x) :: ts, y :: xs, ρ, ρ', e, j, h => by
    rw [List.map_cons, List.mem_cons] at h
    unfold setN at e
    split at e
    · cases e
    · rw [setN_out e j (fun z => h (.inr z)), List.getElem?_set_ne (fun z => h (.inl z.symm))]
    · cases e
theorem setTg_out {tg : Tg} {x : D} {ρ ρ' : Env} (e : setTg tg x ρ = some ρ') (j : Nat) (h : j ∉ tg.ix) : ρ'[j]? = ρ[j]? := by
  cases tg with
  | nm i y =>
    have e : (match ρ[i]? with | some (Sl.own true _) => none | some _ => some (ρ.set i (.val x)) | none => none) = some ρ' := e
    have hj : i ≠ j := fun z => h (by rw [z]; exact List.mem_singleton.mpr rfl)
    split at e
    · cases e
    · cases e; rw [List.getElem?_set_ne hj]
    · cases e
  | tp ts =>
    cases x with
    | d y =>
      cases y with
      | tuple xs => exact setN_out (show setN ts xs ρ = some ρ' from e) j h
      | _ => cases e
    | _ => cases e
theorem setTg_len {K : PySem.W.Frag} {fa : FA} {W W' : Wd} {ρ ρ' : Env} {σ σ' : L2.St} {H : Hp} (rs : RS K fa W ρ σ H) (f : Fx K fa W ρ σ H W' ρ' σ' H) (s : σ'.length = σ.length) : ρ'.length = ρ.length := by
  rw [f.rs.len, s, ← rs.len]

/-- between two turns of a comprehension: D the new list -/
structure JB (K : PySem.W.Frag) (fa : FA) (W0 : Wd) (ρ1 : Env) (σ : L2.St) (vs : List Nat) (H1 : Hp) (Dd : Addr) (i : Nat) (acc : List P) (ρi : Env) (H : Hp) : Prop where
  rs : RS K fa (fun a => W0 a ∨ a = Dd) ρi (wipe σ vs) H
  fr : ∀ a o, H1 a = some o → ¬ Ow (wipeE ρ1 vs) (wipe σ vs) a → H a = some o
  sh : ∀ (j : Nat) (l : Bool) (x : D), j ∉ vs → ρ1[j]? = some (Sl.own l x) → ∃ x', ρi[j]? = some (Sl.own l x')
  hs : ∀ (j : Nat) (l : Bool) (x : D), ρi[j]? = some (Sl.own l x) → j ∉ vs ∧ ∃ x', ρ1[j]? = some (Sl.own l x')
  dm : ∀ a, H1 a ≠ none → H a ≠ none
  here : ∃ av, H Dd = some (.lst av) ∧ RpA K (fun a => W0 a ∨ a = Dd) H acc av
  len : acc.length ≤ i
section
variable {K : PySem.W.Frag} {fa : FA} {W0 : Wd} {ρ1 ρi ρi1 ρi3 : Env} {σ σ2 : L2.St} {vs : List Nat} {H1 H H' H4 : Hp} {Dd : Addr} {i : Nat} {acc : List P}
theorem JB.ow (rs1 : RS K fa W0 ρ1 σ H1) (j : JB K fa W0 ρ1 σ vs H1 Dd i acc ρi H) {a : Addr} (o : Ow ρi (wipe σ vs) a) : Ow (wipeE ρ1 vs) (wipe σ vs) a := by
  obtain ⟨k, l, x, e1, e2⟩ := o
  obtain ⟨hk, x', e3⟩ := j.hs k l x e1
  exact ⟨k, l, x', by rw [wipeE_out hk]; exact e3, e2⟩
theorem JB.notD (rs1 : RS K fa W0 ρ1 σ H1) (n : H1 Dd = none) (j : JB K fa W0 ρ1 σ vs H1 Dd i acc ρi H) : ¬ Ow ρi (wipe σ vs) Dd := fun o => by
  have := (rs1.wipe vs).owW (j.ow rs1 o)
  exact rs1.notW n this
theorem JB.stay (rs1 : RS K fa W0 ρ1 σ H1) (n : H1 Dd = none) (j : JB K fa W0 ρ1 σ vs H1 Dd i acc ρi H) : Stay W0 H1 (fun a => W0 a ∨ a = Dd) H :=
  ⟨fun a o e w => j.fr a o e fun z => w ((rs1.wipe vs).owW z), fun a z => z.elim .inl fun z => .inr (by rw [z]; exact n), rs1.dom⟩
/-- one turn: H' the yield's heap, σ2 behind the target, ρi3, H4 behind the test and the element; y appended or not -/
theorem JB.turn (rs1 : RS K fa W0 ρ1 σ H1) (n : H1 Dd = none) {tg : Tg} {x : D} (hsub : ∀ i ∈ tg.ix, i ∈ vs) (j : JB K fa W0 ρ1 σ vs H1 Dd i acc ρi H)
    (g : ∀ a o, H a = some o → H' a = some o) (es : setTg tg x ρi = some ρi1) (so : SetOn tg (wipe σ vs) σ2)
    (f1 : Fx K fa (fun a => W0 a ∨ a = Dd) ρi (wipe σ vs) H' (fun a => W0 a ∨ a = Dd) ρi1 σ2 H') (f : FxE K fa (fun a => W0 a ∨ a = Dd) ρi1 σ2 H' (fun a => W0 a ∨ a = Dd) ρi3 H4) :
    ∃ av, H4 Dd = some (.lst av) ∧ RpA K (fun a => W0 a ∨ a = Dd) H4 acc av ∧ JB K fa W0 ρ1 σ vs H1 Dd (i + 1) acc (wipeE ρi3 vs) H4 ∧
      ∀ y v, Rp K (fun a => W0 a ∨ a = Dd) H4 y v → JB K fa W0 ρ1 σ vs H1 Dd (i + 1) (acc ++ [y]) (wipeE ρi3 vs) (upd H4 Dd (.lst (av ++ [v]))) := by
  have ew := wipe_eq so hsub
  have rsg : RS K fa (fun a => W0 a ∨ a = Dd) ρi (wipe σ vs) H' := j.rs.grow g
  -- ownership behind the target
  have ow1 : ∀ {a}, Ow ρi1 σ2 a → Ow ρi (wipe σ vs) a := fun {a} ⟨k, l, z, e1, e2⟩ => by
    have hk : k ∉ tg.ix := fun hk => by
      -- a slot of the target holds a value
      have hv := hsub k hk
      have hlt : k < ρi.length := by
        have h1 := (List.getElem?_eq_some_iff.mp e1).1
        have h2 := setTg_len rsg f1 so.1
        omega
      rcases f1.ow a ⟨k, l, z, e1, e2⟩ with z' | z'
      · obtain ⟨k', l', z'', e3, e4⟩ := z'
        obtain ⟨hk', _⟩ := j.hs k' l' z'' e3
        have hk2 : k' ∉ tg.ix := fun q => hk' (hsub k' q)
        have e5 : ρi1[k']? = some (Sl.own l' z'') := by rw [setTg_out es k' hk2]; exact e3
        have e6 : σ2[k']? = some (some (V.ref a)) := by rw [so.2 k' hk2]; exact e4
        have := f1.rs.inj k k' l l' z z'' a e1 e5 e2 e6
        subst this
        exact hk' hv
      · obtain ⟨b, e3, w, r⟩ := f1.rs.own k l z e1
        rw [e2] at e3
        cases e3
        obtain ⟨o, eo, _⟩ := r.there
        rw [z'] at eo
        cases eo
    rw [setTg_out es k hk] at e1
    rw [so.2 k hk] at e2
    exact ⟨k, l, z, e1, e2⟩
  obtain ⟨av, hD, ra⟩ := j.here
  have nD := j.notD rs1 n
  have nD1 : ¬ Ow ρi1 σ2 Dd := fun z => nD (ow1 z)
  have hD' : H' Dd = some (.lst av) := g _ _ hD
  have hD4 : H4 Dd = some (.lst av) := f.fr _ _ hD' nD1
  have st0 : Stay (fun a => W0 a ∨ a = Dd) H (fun a => W0 a ∨ a = Dd) H' := Stay.grow j.rs.dom g
  have st : Stay (fun a => W0 a ∨ a = Dd) H' (fun a => W0 a ∨ a = Dd) H4 := f.stay f1.rs
  have ra4 := st.rpA (st0.rpA ra)
  have rsw : RS K fa (fun a => W0 a ∨ a = Dd) (wipeE ρi3 vs) (wipe σ vs) H4 := by
    have := f.rs.wipe vs
    rwa [ew] at this
  have frj : ∀ a o, H1 a = some o → ¬ Ow (wipeE ρ1 vs) (wipe σ vs) a → H4 a = some o := fun a o e no =>
    f.fr a o (g a o (j.fr a o e no)) fun z => no (j.ow rs1 (ow1 z))
  have shj : ∀ (k : Nat) (l : Bool) (x : D), k ∉ vs → ρ1[k]? = some (Sl.own l x) → ∃ x', (wipeE ρi3 vs)[k]? = some (Sl.own l x') := fun k l x hk e => by
    obtain ⟨x1, e1⟩ := j.sh k l x hk e
    rw [← setTg_out es k (fun z => hk (hsub k z))] at e1
    obtain ⟨x2, e2⟩ := f.sh k l x1 e1
    exact ⟨x2, by rw [wipeE_out hk]; exact e2⟩
  have hsj : ∀ (k : Nat) (l : Bool) (x : D), (wipeE ρi3 vs)[k]? = some (Sl.own l x) → k ∉ vs ∧ ∃ x', ρ1[k]? = some (Sl.own l x') := fun k l x e => by
    have hk : k ∉ vs := fun hk => by
      have hlt : k < ρi3.length := by
        have := (List.getElem?_eq_some_iff.mp e).1
        rwa [wipeE_len] at this
      rw [wipeE_in hk hlt] at e
      cases e
    rw [wipeE_out hk] at e
    obtain ⟨x1, e1⟩ := f.hs k l x e
    rw [setTg_out es k (fun z => hk (hsub k z))] at e1
    obtain ⟨_, x2, e2⟩ := j.hs k l x1 e1
    exact ⟨hk, x2, e2⟩
  have dmj : ∀ a, H1 a ≠ none → H4 a ≠ none := fun a e => by
    refine f.dm a ?_
    have := j.dm a e
    cases q : H a with
    | none => exact absurd q this
    | some o => rw [g a o q]; exact Option.some_ne_none o
  refine ⟨av, hD4, ra4, ⟨rsw, frj, shj, hsj, dmj, ⟨av, hD4, ra4⟩, Nat.le_succ_of_le j.len⟩, fun y v r => ?_⟩
  -- the element comes into the list
  have nDw : ¬ Ow (wipeE ρi3 vs) (wipe σ vs) Dd := fun ⟨k, l, z, e1, e2⟩ => by
    obtain ⟨hk, x', e3⟩ := hsj k l z e1
    have : Ow (wipeE ρ1 vs) (wipe σ vs) Dd := ⟨k, l, x', by rw [wipeE_out hk]; exact e3, e2⟩
    exact rs1.notW n ((rs1.wipe vs).owW this)
  have up : ∀ a o, a ≠ Dd → H4 a = some o → upd H4 Dd (.lst (av ++ [v])) a = some o := fun a o ne e => by rw [upd_ne ne]; exact e
  have stD : Stay (fun a => W0 a ∨ a = Dd) H4 (fun a => W0 a ∨ a = Dd) (upd H4 Dd (.lst (av ++ [v]))) := ⟨fun a o e w => up a o (fun z => w (.inr z)) e, fun a z => .inl z, rsw.dom⟩
  refine ⟨⟨rsw.len, fun k x e => ?_, fun k l x e => ?_, rsw.inj, fun a w => ?_⟩, fun a o e no => up a o (fun z => by rw [z, n] at e; cases e) (frj a o e no), shj, hsj, fun a e => ?_, ⟨av ++ [v], upd_same, ?_⟩, ?_⟩
  · obtain ⟨u, e1, r⟩ := rsw.val k x e
    exact ⟨u, e1, stD.rpD r⟩
  · obtain ⟨a, e1, w, r⟩ := rsw.own k l x e
    refine ⟨a, e1, w, stD.rpO r fun o ho => up a o (fun z => ?_) ho⟩
    subst z
    exact nDw ⟨k, l, x, e, e1⟩
  · by_cases ha : a = Dd
    · subst ha; exact ⟨_, upd_same, trivial⟩
    · obtain ⟨o, e, m⟩ := rsw.dom a w
      exact ⟨o, up a o ha e, m⟩
  · by_cases ha : a = Dd
    · subst ha; exact absurd n e
    · rw [upd_ne ha]; exact dmj a e
  · exact (stD.rpA ra4).append (.cons (stD.rp r) .nil)
  · rw [List.length_append]
    have := j.len
    simp only [List.length_cons, List.length_nil]
    omega
/-- behind the last turn -/
theorem JB.done {ρ0 : Env} {H0 : Hp} (rs1 : RS K fa W0 ρ1 σ H1) (n : H1 Dd = none) (j : JB K fa W0 ρ1 σ vs H1 Dd i acc ρi H) :
    FxE K fa W0 ρ1 σ H1 (fun a => W0 a ∨ a = Dd) (backE ρ1 ρi vs) H ∧ ¬ Ow (backE ρ1 ρi vs) σ Dd := by
  have st := j.stay rs1 n
  have hl : ρi.length = ρ1.length := by rw [j.rs.len, wipe_length, ← rs1.len]
  have inn : ∀ {k : Nat} {s : Sl}, k ∈ vs → (backE ρ1 ρi vs)[k]? = some s → ρ1[k]? = some s := fun {k s} hk e => by
    have hlt : k < ρi.length := by
      have := (List.getElem?_eq_some_iff.mp e).1
      rwa [backE_len] at this
    rw [backE_in hk hlt hl] at e
    exact e
  have out : ∀ {k : Nat} {s : Sl}, k ∉ vs → (backE ρ1 ρi vs)[k]? = some s → ρi[k]? = some s := fun {k s} hk e => by rw [backE_out hk] at e; exact e
  have shb : ∀ (k : Nat) (l : Bool) (x : D), ρ1[k]? = some (Sl.own l x) → ∃ x', (backE ρ1 ρi vs)[k]? = some (Sl.own l x') := fun k l x e => by
    by_cases hk : k ∈ vs
    · have hlt : k < ρi.length := by rw [hl]; exact (List.getElem?_eq_some_iff.mp e).1
      exact ⟨x, by rw [backE_in hk hlt hl]; exact e⟩
    · obtain ⟨x', e'⟩ := j.sh k l x hk e
      exact ⟨x', by rw [backE_out hk]; exact e'⟩
  have hsb : ∀ (k : Nat) (l : Bool) (x : D), (backE ρ1 ρi vs)[k]? = some (Sl.own l x) → ∃ x', ρ1[k]? = some (Sl.own l x') := fun k l x e => by
    by_cases hk : k ∈ vs
    · exact ⟨x, inn hk e⟩
    · exact (j.hs k l x (out hk e)).2
  have sw : ∀ {k : Nat}, k ∉ vs → (wipe σ vs)[k]? = σ[k]? := fun hk => wipe_out' hk
  have fin : FxE K fa W0 ρ1 σ H1 (fun a => W0 a ∨ a = Dd) (backE ρ1 ρi vs) H := by
    refine ⟨⟨by rw [backE_len, hl]; exact rs1.len, fun k x e => ?_, fun k l x e => ?_, fun k k' l l' x x' a e1 e2 e3 e4 => ?_, j.rs.dom⟩, fun a o e no => j.fr a o e fun z => no (Ow.wipe rs1 z), shb, hsb, fun a w => .inl w, fun a z => z.elim .inl fun z => .inr (by rw [z]; exact n), j.dm⟩
    · by_cases hk : k ∈ vs
      · obtain ⟨v, e1, r⟩ := rs1.val k x (inn hk e)
        exact ⟨v, e1, st.rpD r⟩
      · obtain ⟨v, e1, r⟩ := j.rs.val k x (out hk e)
        rw [sw hk] at e1
        exact ⟨v, e1, r⟩
    · by_cases hk : k ∈ vs
      · have e' := inn hk e
        obtain ⟨a, e1, w, r⟩ := rs1.own k l x e'
        refine ⟨a, e1, .inl w, st.rpO r fun o ho => j.fr a o ho fun z => ?_⟩
        obtain ⟨k', l', x', e2, e3⟩ := z
        have hk' : k' ∉ vs := fun hk' => by
          have hlt : k' < ρ1.length := by
            have := (List.getElem?_eq_some_iff.mp e2).1
            rwa [wipeE_len] at this
          rw [wipeE_in hk' hlt] at e2
          cases e2
        rw [wipeE_out hk'] at e2
        rw [sw hk'] at e3
        have := rs1.inj k k' l l' x x' a e' e2 e1 e3
        subst this
        exact hk' hk
      · obtain ⟨a, e1, w, r⟩ := j.rs.own k l x (out hk e)
        rw [sw hk] at e1
        exact ⟨a, e1, w, r⟩
    · obtain ⟨y, q1⟩ := hsb k l x e1
      obtain ⟨y', q2⟩ := hsb k' l' x' e2
      exact rs1.inj k k' l l' y y' a q1 q2 e3 e4
  refine ⟨fin, fun z => ?_⟩
  have := (fin.owIff Dd).mp z
  exact rs1.notW n (rs1.owW this)
/-- ahead of the first turn -/
theorem JB.start (rs1 : RS K fa W0 ρ1 σ H1) (n : H1 Dd = none) : JB K fa W0 ρ1 σ vs H1 Dd 0 [] (wipeE ρ1 vs) (upd H1 Dd (.lst [])) := by
  have g := grow_upd (o := .lst []) n
  refine ⟨(FxE.own (xs := []) (rs1.wipe vs) n).rs, fun a o e _ => g a o e, fun k l x hk e => ⟨x, by rw [wipeE_out hk]; exact e⟩, fun k l x e => ?_, fun a e => ?_, ⟨[], upd_same, .nil⟩, Nat.le_refl _⟩
  · have hk : k ∉ vs := fun hk => by
      have hlt : k < ρ1.length := by
        have := (List.getElem?_eq_some_iff.mp e).1
        rwa [wipeE_len] at this
      rw [wipeE_in hk hlt] at e
      cases e
    rw [wipeE_out hk] at e
    exact ⟨hk, x, e⟩
  · cases q : H1 a with
    | none => exact absurd q e
    | some o => rw [g a o q]; exact Option.some_ne_none o
end
end Mp

set_option maxRecDepth 100000
set_option maxHeartbeats 4000000
/-! Mp12: list comprehensions as expressions. -/
namespace Mp
open PySem PySem.Spec PyProof.Rows L2

abbrev WF : WX := fun _ _ _ _ => False
theorem PTs.mono {X : Cx} {e : List Expr} {t t' : TT} (h : PTs X e t) (hi : ∀ σ H Q, t' σ H Q → t σ H Q) : PTs X e t' := ⟨fun pins s σ H Q I q => h.run pins s σ H Q I (hi _ _ _ q)⟩

section
variable {X : Cx} {fa ca : FA} {Wx : WX} {elt tg iter : Expr} {ifs : List Expr} {scope : Scope} {own : List (Str × Nat)} {pos : Pos} {tgT : Tg} {ti : Env → R (List D)} {tc : Env → R Bool} {te : Env → R RV}
theorem comp_read {K : PySem.W.Frag} {C CF : Ctx} (hC : C.K = K ∧ CF.K = K ∧ CF.fa = C.fa ∧ CF.Wx = WF) (hsub : ∀ i ∈ tgT.ix, i ∈ own.map (·.2)) (σ : L2.St) (H : Hp) (Q : VK)
    (h : rd C (fun ρ => (ti ρ).bind fun items ρ1 => compE (own.map (·.2)) tgT tc te items ρ1) σ H Q) :
    tLc (rdI C ti) (gTg CF tgT) (rdT CF tc) (rd CF te) (own.map (·.2)) σ H Q := by
  obtain ⟨Cc, hK2, hfa, hWx⟩ := hC
  obtain ⟨K', fa', ca', Wx'⟩ := C
  obtain ⟨K'', fa'', ca'', Wx''⟩ := CF
  simp only at Cc hK2 hfa hWx
  subst Cc hK2 hfa hWx
  obtain ⟨W0, ρ0, rs0, h⟩ := h
  refine ⟨W0, ρ0, rs0, ?_⟩
  have h : Oc ⟨K'', fa'', ca', Wx'⟩ W0 ρ0 σ H Q ((ti ρ0).bind fun items ρ1 => compE (own.map (·.2)) tgT tc te items ρ1) := h
  cases e : ti ρ0 with
  | ex e' ρ' => rw [e] at h; exact h
  | bad => rw [e] at h; exact h.elim
  | ok items ρ1 =>
    rw [e] at h
    have h : Oc ⟨K'', fa'', ca', Wx'⟩ W0 ρ0 σ H Q (compE (own.map (·.2)) tgT tc te items ρ1) := h
    intro W1 J H1 f1 hJ Dd hD
    generalize own.map (·.2) = vs at *
    obtain ⟨hlen, hit⟩ := hJ
    have rs1 := f1.rs
    unfold compE at h
    cases ec : compL vs tgT tc te items [] (wipeE ρ1 vs) with
    | ex e' ρ' => rw [ec] at h; exact h.elim
    | bad => rw [ec] at h; exact h.elim
    | ok accF ρF =>
      rw [ec] at h
      have h : Oc ⟨K'', fa'', ca', Wx'⟩ W0 ρ0 σ H Q (.ok (.fr (.d (.list accF))) (backE ρ1 ρF vs)) := h
      refine ⟨fun i m Hi => m + i = items.length ∧ ∃ ρi acc, JB K'' fa'' W1 ρ1 σ vs H1 Dd i acc ρi Hi ∧ compL vs tgT tc te (items.drop i) acc ρi = .ok accF ρF,
        ⟨items.length, by omega, wipeE ρ1 vs, [], JB.start rs1 hD, by rw [List.drop_zero]; exact ec⟩, fun i m Hi hw => ?_⟩
      obtain ⟨hm, ρi, acc, jb, el⟩ := hw
      have st := jb.stay rs1 hD
      obtain ⟨hgo, hstop⟩ := hit _ Hi st jb.rs.dom
      by_cases hi : i < items.length
      · refine .inr ?_
        have hx : items[i]? = some items[i] := List.getElem?_eq_getElem hi
        obtain ⟨go, hy⟩ := hgo i _ hx
        refine ⟨go, fun H' => ∃ ρi acc, JB K'' fa'' W1 ρ1 σ vs H1 Dd (i + 1) acc ρi H' ∧ compL vs tgT tc te (items.drop (i + 1)) acc ρi = .ok accF ρF, fun H' ⟨ρ', acc', jb', el'⟩ => ⟨m - 1, by omega, by omega, ρ', acc', jb', el'⟩, fun v H' y => ?_⟩
        obtain ⟨g, rv⟩ := hy v H' y
        rw [List.drop_eq_getElem_cons hi] at el
        unfold compL at el
        cases es : setTg tgT items[i] ρi with
        | none => rw [es] at el; cases el
        | some ρi1 =>
          rw [es] at el
          simp only at el
          refine ⟨fun a => W1 a ∨ a = Dd, ρi, items[i], ρi1, jb.rs.grow g, rv, es, fun σ2 so f2 => ⟨wipe_eq so hsub, ?_⟩⟩
          refine ⟨_, ρi1, f2.rs, ?_⟩
          cases ec2 : tc ρi1 with
          | ex _ _ => rw [ec2] at el; cases el
          | bad => rw [ec2] at el; cases el
          | ok b ρi2 =>
            rw [ec2] at el
            intro W3 H3 f3
            have f3S := FxE.shrink f2.rs f3
            cases b with
            | false =>
              simp only at el
              refine iteF ?_
              obtain ⟨av, _, _, jb', _⟩ := jb.turn rs1 hD hsub g es so f2 f3S
              exact ⟨_, acc, jb', el⟩
            | true =>
              simp only at el
              refine iteT ?_
              refine ⟨_, ρi2, f3S.rs, ?_⟩
              cases ee : te ρi2 with
              | ex _ _ => rw [ee] at el; cases el
              | bad => rw [ee] at el; cases el
              | ok r ρi3 =>
                rw [ee] at el
                simp only at el
                intro W4 v4 H4 f4 q4
                have f4S := FxE.shrink f3S.rs f4
                cases ed : datas [r] with
                | none => rw [ed] at el; cases el
                | some ys =>
                  cases ys with
                  | nil => rw [ed] at el; cases el
                  | cons y ys =>
                    cases ys with
                    | cons _ _ => rw [ed] at el; cases el
                    | nil =>
                      rw [ed] at el
                      simp only at el
                      have ra : RpA K'' (fun a => W1 a ∨ a = Dd) H4 [y] [v4] := RpRs.datas (.cons q4 (fun _ _ z => by cases z) .nil) ed f4.wm f3S.rs.ex f4.rs.dom
                      obtain ⟨av, hav, rav, jb', jb2⟩ := jb.turn rs1 hD hsub g es so f2 (f3S.trans f4S)
                      cases ra with
                      | cons ry _ =>
                        have jb3 := jb2 y v4 ry
                        refine ⟨av, hav, ?_, _, _, jb3, el⟩
                        have l1 := rav.length
                        have l2 := jb.len
                        rw [sizeLine_eq]
                        omega
      · have ei : i = items.length := by omega
        refine .inl ⟨hstop i (by omega), ?_⟩
        subst ei
        rw [List.drop_length] at el
        unfold compL at el
        cases el
        obtain ⟨fd, nD⟩ := jb.done (ρ0 := ρ0) (H0 := H) rs1 hD
        obtain ⟨av, hav, rav⟩ := jb.here
        refine h _ _ _ (f1.trans fd) ⟨Dd, rfl, .inr rfl, fun w => ?_, fun z => ?_, av, hav, ?_, rav⟩
        · exact f1.dm _ w hD
        · exact nD z
        · have l1 := rav.length
          have l2 := jb.len
          rw [sizeLine_eq]
          omega
theorem ex_comp (hc : X.calm = true) (nd : X.N.Nodup) (hi : PI X tg iter (rdI (cx X fa ca Wx) ti)) (ok : BlkOk X.N X.env.scope scope own) (hsub : ∀ i ∈ tgT.ix, i ∈ own.map (·.2)) (hp : plainE iter = true)
    (hg : ∀ (s : Shared) (H : Hp) (C : Addr) (cl : List (Str × Addr)) (fp : List Addr), PG (X.blk s H scope (compEnvC scope cl C X.env) fp) tg (gTg (cx X fa ca WF) tgT))
    (ht : ∀ (s : Shared) (H : Hp) (C : Addr) (cl : List (Str × Addr)) (fp : List Addr), PTs (X.blk s H scope (compEnvC scope cl C X.env) fp) ifs (rdT (cx X fa ca WF) tc))
    (he : ∀ (s : Shared) (H : Hp) (C : Addr) (cl : List (Str × Addr)) (fp : List Addr), PE (X.blk s H scope (compEnvC scope cl C X.env) fp) elt (rd (cx X fa ca WF) te)) :
    PE X (.ListComp elt [⟨tg, iter, ifs, 0⟩] scope pos) (rd (cx X fa ca Wx) fun ρ => (ti ρ).bind fun items ρ1 => compE (own.map (·.2)) tgT tc te items ρ1) :=
  PE.mono (pe_lc hc nd hi ok hg ht he (plain_fold hp _)) fun σ H Q h => comp_read (K := X.K) (C := cx X fa ca Wx) (CF := cx X fa ca WF) ⟨rfl, rfl, rfl, rfl⟩ hsub σ H Q h
end
end Mp

set_option maxRecDepth 100000
set_option maxHeartbeats 4000000
/-! Mp13: statements. -/
namespace Mp
open PySem PySem.Spec PyProof.Rows L2

def OcS (C : Ctx) (W : Wd) (ρ : Env) (σ : L2.St) (H : Hp) (D : Ends) : SR → Prop
  | .nx ρ' => ∀ W' σ' H', Fx C.K C.fa W ρ σ H W' ρ' σ' H' → D.nx σ' H'
  | .bk ρ' => ∀ W' σ' H', Fx C.K C.fa W ρ σ H W' ρ' σ' H' → D.bk σ' H'
  | .ct ρ' => ∀ W' σ' H', Fx C.K C.fa W ρ σ H W' ρ' σ' H' → D.ct σ' H'
  | .rt r ρ' => ∀ W' σ' v H', Fx C.K C.fa W ρ σ H W' ρ' σ' H' → RpR C.K C.fa (Ex_ H) W' ρ' σ' H' r v → D.rt v H'
  | .ex e ρ' => ∀ c d W' σ' H', Fx C.K C.fa W ρ σ H W' ρ' σ' H' → RpX C.ca e c d H' → C.Wx c d σ' H'
  | .bad => False
def rdS (C : Ctx) (f : Env → SR) : TS := fun D σ H => ∃ W ρ, RS C.K C.fa W ρ σ H ∧ OcS C W ρ σ H D (f ρ)
theorem PS.mono {X : Cx} {e : Stmt} {t t' : TS} (h : PS X e t) (hi : ∀ D σ H, t' D σ H → t D σ H) : PS X e t' := ⟨fun pins s σ H D I q => h.run pins s σ H D I (hi _ _ _ q)⟩
theorem PSs.mono {X : Cx} {e : List Stmt} {t t' : TS} (h : PSs X e t) (hi : ∀ D σ H, t' D σ H → t D σ H) : PSs X e t' := ⟨fun pins s σ H D I q => h.run pins s σ H D I (hi _ _ _ q)⟩
section
variable {C : Ctx} {W W1 : Wd} {ρ ρ1 : Env} {σ σ1 : L2.St} {H H1 : Hp} {De : Ends}
theorem OcS.step {r : SR} (rs : RS C.K C.fa W ρ σ H) (f : Fx C.K C.fa W ρ σ H W1 ρ1 σ1 H1) (h : OcS C W ρ σ H De r) : OcS C W1 ρ1 σ1 H1 De r := by
  cases r with
  | nx ρ' => exact fun W' σ' H' g => h W' σ' H' (Fx.trans rs f g)
  | bk ρ' => exact fun W' σ' H' g => h W' σ' H' (Fx.trans rs f g)
  | ct ρ' => exact fun W' σ' H' g => h W' σ' H' (Fx.trans rs f g)
  | rt r ρ' => exact fun W' σ' v H' g q => h W' σ' v H' (Fx.trans rs f g) (q.base f.dm)
  | ex e ρ' => exact fun c d W' σ' H' g q => h c d W' σ' H' (Fx.trans rs f g) q
  | bad => exact h
/-- an expression, then what follows -/
theorem rdS_then {f : Env → R RV} {k : RV → Env → SR} {Q' : VK} (rs : RS C.K C.fa W ρ σ H) (h : OcS C W ρ σ H De (sOf (f ρ) k))
    (hk : ∀ W1 ρ1 H1 r v, FxE C.K C.fa W ρ σ H W1 ρ1 H1 → RpR C.K C.fa (Ex_ H) W1 ρ1 σ H1 r v → OcS C W ρ σ H De (k r ρ1) → Q' v H1) : rd C f σ H Q' := by
  refine ⟨W, ρ, rs, ?_⟩
  cases e : f ρ with
  | ok r ρ' =>
    rw [e] at h
    exact fun W' v H' g q => hk W' ρ' H' r v g q h
  | ex e' ρ' =>
    rw [e] at h
    exact fun c d W' H' g q => h c d W' σ H' g.fx q
  | bad =>
    rw [e] at h
    exact h
theorem rdST_then {f : Env → R Bool} {k : Bool → Env → SR} {Q' : Bool → Hp → Prop} (rs : RS C.K C.fa W ρ σ H) (h : OcS C W ρ σ H De (sOf (f ρ) k))
    (hk : ∀ W1 ρ1 H1 b, FxE C.K C.fa W ρ σ H W1 ρ1 H1 → OcS C W1 ρ1 σ H1 De (k b ρ1) → Q' b H1) : rdT C f σ H Q' := by
  refine ⟨W, ρ, rs, ?_⟩
  cases e : f ρ with
  | ok r ρ' =>
    rw [e] at h
    exact fun W' H' g => hk W' ρ' H' r g (OcS.step rs g.fx h)
  | ex e' ρ' =>
    rw [e] at h
    exact fun c d W' H' g q => h c d W' σ H' g.fx q
  | bad =>
    rw [e] at h
    exact h
theorem OcS.rd {f : Env → SR} (rs : RS C.K C.fa W ρ σ H) (h : OcS C W ρ σ H De (f ρ)) : rdS C f De σ H := ⟨W, ρ, rs, h⟩

/-! ### a slot takes a result -/
theorem Fx.setOwn {K : PySem.W.Frag} {fa : FA} {W : Wd} {ρ : Env} {σ : L2.St} {H : Hp} (rs : RS K fa W ρ σ H) {i : Nat} {x : D} {a : Addr} (w : W a) (no : ¬ Ow ρ σ a) (r : RpO K W H x a) (nl : ∀ y, ρ[i]? ≠ some (Sl.own true y)) :
    ∀ {H0 : Hp} {W0 : Wd} {ρ0 : Env} {σ0 : L2.St}, RS K fa W0 ρ0 σ0 H0 → Fx K fa W0 ρ0 σ0 H0 W ρ σ H → H0 a = none → Fx K fa W0 ρ0 σ0 H0 W (ρ.set i (.own false x)) (σ.set i (some (.ref a))) H := by
  intro H0 W0 ρ0 σ0 rs0 f n
  have notEx : ∀ (m : Nat) (l : Bool) (y : D), ρ[m]? = some (Sl.own l y) → σ[m]? ≠ some (some (V.ref a)) := fun m l y e z => no ⟨m, l, y, e, z⟩
  refine ⟨⟨by rw [List.length_set, List.length_set]; exact rs.len, fun j y e => ?_, fun j l y e => ?_, fun j k l l' y y' b e1 e2 e3 e4 => ?_, rs.dom⟩, f.fr, fun b z => ?_, f.wg, f.wk, f.dm, fun j y e => ?_⟩
  · by_cases hj : i = j
    · subst hj
      by_cases hi : i < ρ.length
      · rw [List.getElem?_set_self hi] at e; cases e
      · rw [List.getElem?_eq_none (by rw [List.length_set]; omega)] at e; cases e
    · rw [List.getElem?_set_ne hj] at e ⊢
      exact rs.val j y e
  · by_cases hj : i = j
    · subst hj
      by_cases hi : i < ρ.length
      · rw [List.getElem?_set_self hi] at e
        cases e
        exact ⟨a, by rw [List.getElem?_set_self (by rw [← rs.len]; exact hi)], w, r⟩
      · rw [List.getElem?_eq_none (by rw [List.length_set]; omega)] at e; cases e
    · rw [List.getElem?_set_ne hj] at e ⊢
      exact rs.own j l y e
  · by_cases hj : i = j
    · by_cases hk : i = k
      · rw [← hj, ← hk]
      · subst hj
        have hi : i < σ.length := by
          have := (List.getElem?_eq_some_iff.mp e1).1
          rw [List.length_set, rs.len] at this; exact this
        rw [List.getElem?_set_self hi] at e3
        cases e3
        rw [List.getElem?_set_ne hk] at e2 e4
        exact absurd e4 (notEx k l' y' e2)
    · by_cases hk : i = k
      · subst hk
        have hi : i < σ.length := by
          have := (List.getElem?_eq_some_iff.mp e2).1
          rw [List.length_set, rs.len] at this; exact this
        rw [List.getElem?_set_self hi] at e4
        cases e4
        rw [List.getElem?_set_ne hj] at e1 e3
        exact absurd e3 (notEx j l y e1)
      · rw [List.getElem?_set_ne hj] at e1 e3
        rw [List.getElem?_set_ne hk] at e2 e4
        exact rs.inj j k l l' y y' b e1 e2 e3 e4
  · obtain ⟨j, l, y, e1, e2⟩ := z
    by_cases hj : i = j
    · subst hj
      have hi : i < σ.length := by
        have := (List.getElem?_eq_some_iff.mp e1).1
        rw [List.length_set, rs.len] at this; exact this
      rw [List.getElem?_set_self hi] at e2
      cases e2
      exact .inr n
    · rw [List.getElem?_set_ne hj] at e1 e2
      exact f.ow b ⟨j, l, y, e1, e2⟩
  · obtain ⟨y', e1, e2⟩ := f.ln j y e
    have hj : i ≠ j := fun z => by subst z; exact nl y' e1
    rw [List.getElem?_set_ne hj, List.getElem?_set_ne hj]
    exact ⟨y', e1, e2⟩
/-- a name takes a result -/
theorem putR_fx {K : PySem.W.Frag} {fa : FA} {W0 W : Wd} {ρ0 ρ ρ' : Env} {σ0 σ : L2.St} {H0 H : Hp} {i : Nat} {r : RV} {v : V} (rs0 : RS K fa W0 ρ0 σ0 H0) (f : Fx K fa W0 ρ0 σ0 H0 W ρ σ H) (q : RpR K fa (Ex_ H0) W ρ σ H r v) (e : putR i r ρ = some ρ') :
    Fx K fa W0 ρ0 σ0 H0 W ρ' (σ.set i (some v)) H := by
  unfold putR at e
  split at e
  · cases e
  · cases e
  · rename_i s hs hne
    have nl : ∀ y, ρ[i]? ≠ some (Sl.own true y) := fun y z => by rw [z] at hne; cases hne; exact hs y rfl
    cases r with
    | sh x => cases e; exact Fx.trans rs0 f (Fx.setVal f.rs q nl)
    | fr x =>
      cases e
      obtain ⟨a, ea, w, n, no, r⟩ := q
      subst ea
      refine Fx.setOwn f.rs w no r nl rs0 f ?_
      cases z : H0 a with
      | none => rfl
      | some o => exact absurd (by show H0 a ≠ none; rw [z]; exact Option.some_ne_none o) n
    | br j => cases e
end
end Mp

set_option maxRecDepth 100000
set_option maxHeartbeats 4000000
/-! Mp14: statements: stores. -/
namespace Mp
open PySem PySem.Spec PyProof.Rows L2

section
variable {X : Cx} {fa ca : FA} {Wx : WX} {i : Nat} {x : Str} {e : Expr} {pos p' : Pos} {p : Pr}
theorem set_read {C : Ctx} {f : Env → R RV} {De : Ends} {σ : L2.St} {H : Hp} (h : rdS C (fun ρ => sOf (f ρ) fun r ρ1 => nxO (putR i r ρ1)) De σ H) : rd C f σ H fun v H1 => De.nx (σ.set i (some v)) H1 := by
  obtain ⟨W, ρ, rs, h⟩ := h
  refine rdS_then rs h fun W1 ρ1 H1 r v f1 q1 h1 => ?_
  cases e : putR i r ρ1 with
  | none => rw [e] at h1; exact h1.elim
  | some ρ2 => rw [e] at h1; exact h1 _ _ _ (putR_fx rs f1.fx q1 e)
theorem st_set (nd : X.N.Nodup) (h : StN X i x) {f : Env → R RV} (he : PE X e (rd (cx X fa ca Wx) f)) (hs : swapsWith e (some (.Name x p')) pos.line X.env = pure false) :
    PS X (.Assign [.Name x p'] e pos) (rdS (cx X fa ca Wx) fun ρ => sOf (f ρ) fun r ρ1 => nxO (putR i r ρ1)) :=
  PS.mono (ps_set nd h.hi h.loc he hs h.hf) fun D σ H h => set_read h
/-- a tuple is unpacked -/
theorem setT_read {C : Ctx} {tg : Tg} {f : Env → R RV} {De : Ends} {σ : L2.St} {H : Hp} (h : rdS C (fun ρ => sOf (f ρ) fun r ρ1 => match shD r with
    | some x => nxO (setTg tg x ρ1)
    | none => .bad) De σ H) : rd C f σ H fun v H1 => gTg C tg v σ H1 De.nx := by
  obtain ⟨W, ρ, rs, h⟩ := h
  refine rdS_then rs h fun W1 ρ1 H1 r v f1 q1 h1 => ?_
  cases e : shD r with
  | none => rw [e] at h1; exact h1.elim
  | some y =>
    rw [e] at h1
    simp only at h1
    cases e2 : setTg tg y ρ1 with
    | none => rw [e2] at h1; exact h1.elim
    | some ρ2 =>
      rw [e2] at h1
      have fS := FxE.shrink rs f1
      exact ⟨W, ρ1, y, ρ2, fS.rs, q1.out rs f1 e, e2, fun σ' so f2 => h1 _ _ _ (Fx.trans rs fS.fx f2)⟩
theorem sw_tup (e : Expr) (es : List Expr) (k : Nat) (p : Pos) (l : Nat) (env : PySem.Env) : swapsWithSole [.Tuple es k p] e l env = pure false := by
  cases e <;> rfl
def notTup : Expr → Bool
  | .Tuple .. => false
  | _ => true
theorem sw_none {e : Expr} (h : notTup e = true) (es : List Expr) (k : Nat) (p : Pos) (env : PySem.Env) : swappedStores [.Tuple es k p] e env = pure none := by
  cases e <;> first | rfl | cases h
theorem st_setT (hc : X.calm = true) (nd : X.N.Nodup) {ts : List (Nat × Str)} {es : List Expr} {k : Nat} (h : NmsE X ts es) {f : Env → R RV} (he : PE X e (rd (cx X fa ca Wx) f)) (hn : notTup e = true) :
    PS X (.Assign [.Tuple es k p'] e pos) (rdS (cx X fa ca Wx) fun ρ => sOf (f ρ) fun r ρ1 => match shD r with
    | some x => nxO (setTg (.tp ts) x ρ1)
    | none => .bad) :=
  PS.mono (ps_asg he (tg_tp hc nd h) (sw_tup _ _ _ _ _ _) (sw_none hn _ _ _ _)) fun D σ H h => setT_read h

/-! ### a, b = e, e' -/
theorem frV_mem {K : PySem.W.Frag} {W0 W : Wd} {ρ : Env} {σ : L2.St} {H : Hp} {rs : List RV} {vs : List V} (h : RpRs K fa W0 W ρ σ H rs vs) {v : V} (m : v ∈ frV rs vs) : ∃ x, RpR K fa W0 W ρ σ H (.fr x) v := by
  induction h with
  | nil => unfold frV at m; cases m
  | @cons r u rs vs h d t ih =>
    cases r with
    | sh y => unfold frV at m; exact ih m
    | br y => unfold frV at m; exact ih m
    | fr y =>
      unfold frV at m
      rcases List.mem_cons.mp m with m | m
      · subst m; exact ⟨y, h⟩
      · exact ih m
/-- after a store the others stand -/
theorem RpRs.stored {K : PySem.W.Frag} {W0 W : Wd} {ρ ρ' : Env} {σ : L2.St} {H : Hp} {i : Nat} {r : RV} {v : V} (e : putR i r ρ = some ρ') (q : RpR K fa W0 W ρ σ H r v) (len : ρ.length = σ.length) : ∀ {rs : List RV} {vs : List V}, RpRs K fa W0 W ρ σ H rs vs → (∀ x, r = .fr x → v ∉ frV rs vs) → (∀ j, RV.br j ∉ rs) →
    RpRs K fa W0 W ρ' (σ.set i (some v)) H rs vs := by
  have hrho : ∃ s, ρ' = ρ.set i s ∧ (∀ l y, s = Sl.own l y → ∃ x, r = .fr x) := by
    unfold putR at e
    split at e
    · cases e
    · cases e
    · cases r with
      | sh x => cases e; exact ⟨_, rfl, fun _ _ z => by cases z⟩
      | fr x => cases e; exact ⟨_, rfl, fun _ _ _ => ⟨x, rfl⟩⟩
      | br j => cases e
  obtain ⟨s, rfl, hs⟩ := hrho
  intro rs vs h
  induction h with
  | nil => exact fun _ _ => .nil
  | @cons r' u rs vs h d t ih =>
    intro hd nb
    have nb' : ∀ j, RV.br j ∉ rs := fun j z => nb j (List.mem_cons_of_mem _ z)
    refine .cons ?_ d (ih (fun x ex z => hd x ex ?_) nb')
    · cases r' with
      | sh y => exact h
      | br j => exact absurd List.mem_cons_self (nb j)
      | fr y =>
        obtain ⟨a, ea, w, n, no, r0⟩ := h
        refine ⟨a, ea, w, n, fun z => ?_, r0⟩
        obtain ⟨k, l, z', e1, e2⟩ := z
        by_cases hk : i = k
        · subst hk
          by_cases hi : i < ρ.length
          · rw [List.getElem?_set_self hi] at e1
            rw [List.getElem?_set_self (by omega)] at e2
            have e1 : s = Sl.own l z' := Option.some.inj e1
            have e2 : v = V.ref a := Option.some.inj (Option.some.inj e2)
            obtain ⟨x, hx⟩ := hs l z' e1
            refine hd x hx ?_
            unfold frV
            rw [ea, e2]
            exact List.mem_cons_self
          · rw [List.getElem?_eq_none (by rw [List.length_set]; omega)] at e1; cases e1
        · rw [List.getElem?_set_ne hk] at e1 e2
          exact no ⟨k, l, z', e1, e2⟩
    · cases r' with
      | sh y => unfold frV; exact z
      | br j => unfold frV; exact z
      | fr y => unfold frV; exact List.mem_cons_of_mem _ z
theorem putRs_nobr : ∀ {is : List (Nat × Str)} {rv : List RV} {ρ ρ' : Env}, putRs is rv ρ = some ρ' → ∀ j, RV.br j ∉ rv
  | [], [], _, _, _, _, h => by cases h
  | [], _ :: _, _, _, e, _, _ => by unfold putRs at e; cases e
  | _ :: _, [], _, _, e, _, _ => by unfold putRs at e; cases e
  | (i, _) :: is, r :: rv, ρ, ρ', e, j, h => by
    unfold putRs at e
    obtain ⟨ρ1, e1, e2⟩ := Option.bind_eq_some_iff.mp e
    rcases List.mem_cons.mp h with h | h
    · subst h
      unfold putR at e1
      split at e1 <;> cases e1
    · exact putRs_nobr e2 j h
theorem putRs_fx {K : PySem.W.Frag} {W0 W : Wd} {ρ0 : Env} {σ0 : L2.St} {H0 H : Hp} (rs0 : RS K fa W0 ρ0 σ0 H0) : ∀ {is : List (Nat × Str)} {rv : List RV} {vs : List V} {ρ ρ' : Env} {σ : L2.St}, Fx K fa W0 ρ0 σ0 H0 W ρ σ H → RpRs K fa (Ex_ H0) W ρ σ H rv vs → putRs is rv ρ = some ρ' →
    Fx K fa W0 ρ0 σ0 H0 W ρ' (setNσ is vs σ) H
  | [], _, _, _, _, _, f, .nil, e => by cases e; exact f
  | [], _, _, _, _, _, _, .cons _ _ _, e => by unfold putRs at e; cases e
  | _ :: _, _, _, _, _, _, _, .nil, e => by unfold putRs at e; cases e
  | (i, _) :: is, _, _, ρ, ρ', σ, f, .cons (r := r) (v := v) (rs := rv) (vs := vs) h d t, e => by
    unfold putRs at e
    obtain ⟨ρ1, e1, e2⟩ := Option.bind_eq_some_iff.mp e
    have f1 := putR_fx rs0 f h e1
    exact putRs_fx (is := is) (rv := rv) (vs := vs) (ρ := ρ1) (σ := σ.set i (some v)) rs0 f1 (RpRs.stored e1 h f.rs.len t d (putRs_nobr e2)) e2
theorem putRs_len : ∀ {is : List (Nat × Str)} {rv : List RV} {ρ ρ' : Env}, putRs is rv ρ = some ρ' → rv.length = is.length
  | [], [], _, _, _ => rfl
  | [], _ :: _, _, _, e => by unfold putRs at e; cases e
  | _ :: _, [], _, _, e => by unfold putRs at e; cases e
  | (i, _) :: is, r :: rv, ρ, ρ', e => by
    unfold putRs at e
    obtain ⟨ρ1, e1, e2⟩ := Option.bind_eq_some_iff.mp e
    rw [List.length_cons, List.length_cons, putRs_len e2]
theorem rdSA_then {C : Ctx} {W : Wd} {ρ : Env} {σ : L2.St} {H : Hp} {De : Ends} {f : Env → R (List RV)} {k : List RV → Env → SR} {Q' : List V → Hp → Prop} (rs : RS C.K C.fa W ρ σ H) (h : OcS C W ρ σ H De (sOf (f ρ) k))
    (hk : ∀ W1 ρ1 H1 rv vs, FxE C.K C.fa W ρ σ H W1 ρ1 H1 → RpRs C.K C.fa (Ex_ H) W1 ρ1 σ H1 rv vs → OcS C W ρ σ H De (k rv ρ1) → Q' vs H1) : rdA C f σ H Q' := by
  refine ⟨W, ρ, rs, ?_⟩
  cases e : f ρ with
  | ok r ρ' =>
    rw [e] at h
    exact fun W' v H' g q => hk W' ρ' H' r v g q h
  | ex e' ρ' =>
    rw [e] at h
    exact fun c d W' H' g q => h c d W' σ H' g.fx q
  | bad =>
    rw [e] at h
    exact h
theorem setP_read {C : Ctx} {is : List (Nat × Str)} {f : Env → R (List RV)} {De : Ends} {σ : L2.St} {H : Hp} (h : rdS C (fun ρ => sOf (f ρ) fun rv ρ1 => nxO (putRs is rv ρ1)) De σ H) :
    rdA C f σ H fun vs H1 => vs.length = is.length ∧ (∀ H2, (∀ a o, H1 a = some o → H2 a = some o) → De.nx (setNσ is vs σ) H2) := by
  obtain ⟨W, ρ, rs, h⟩ := h
  refine rdSA_then rs h fun W1 ρ1 H1 rv vs f1 q1 h1 => ?_
  cases e : putRs is rv ρ1 with
  | none => rw [e] at h1; exact h1.elim
  | some ρ2 =>
    rw [e] at h1
    refine ⟨?_, fun H2 g => ?_⟩
    · rw [← q1.length, putRs_len e]
    · have fg := FxE.grow f1.rs g
      exact h1 _ _ _ (putRs_fx rs (f1.trans fg).fx (q1.pers f1.rs fg) e)
/-- the names are plain, on one line, and the values no constants -/
def ParOk (env : PySem.Env) (ns : List Str) (ts vs : List Expr) : Prop :=
  ∀ k p k2 p2, swappedStores [.Tuple ts k p] (.Tuple vs k2 p2) env = pure (some ns)
theorem st_par2 (hc : X.calm = true) (nd : X.N.Nodup) {i j : Nat} {x y : Str} {a b : Expr} {ps : List Pr} {px py pt pt2 : Pos} {k k2 : Nat} (h1 : StN X i x) (h2 : StN X j y) (hij : i ≠ j) (hx : X.env.scope.names.lookup x = some .local) (hy : X.env.scope.names.lookup y = some .local)
    (h : Paired (Der X fa ca Wx) [a, b] ps) (hw : ParOk X.env [x, y] [.Name x px, .Name y py] [a, b]) :
    PS X (.Assign [.Tuple [.Name x px, .Name y py] k pt] (.Tuple [a, b] k2 pt2) pos) (rdS (cx X fa ca Wx) fun ρ => sOf (evsL ps ρ) fun rv ρ1 => nxO (putRs [(i, x), (j, y)] rv ρ1)) := by
  refine PS.mono (ps_par hc nd h1.hi h2.hi hij hx hy (pa_all _ _ h) (hw _ _ _ _)) fun D σ H q => ?_
  obtain ⟨W, ρ, rs, q⟩ := setP_read q
  refine ⟨W, ρ, rs, ?_⟩
  cases e : evsL ps ρ with
  | ok r ρ' =>
    rw [e] at q
    intro W' v H' g t
    obtain ⟨q1, q2⟩ := q W' v H' g t
    match v, q1 with
    | [v, w], _ => exact ⟨v, w, rfl, q2 H' fun _ _ e => e⟩
  | ex e' ρ' => rw [e] at q; exact q
  | bad => rw [e] at q; exact q
theorem st_par3 (hc : X.calm = true) (nd : X.N.Nodup) {i j l : Nat} {x y z : Str} {a b c : Expr} {ps : List Pr} {px py pz pt pt2 : Pos} {k k2 : Nat} (h1 : StN X i x) (h2 : StN X j y) (h3 : StN X l z) (hij : i ≠ j) (hil : i ≠ l) (hjl : j ≠ l) (hx : X.env.scope.names.lookup x = some .local) (hy : X.env.scope.names.lookup y = some .local) (hz : X.env.scope.names.lookup z = some .local)
    (h : Paired (Der X fa ca Wx) [a, b, c] ps) (hw : ParOk X.env [x, y, z] [.Name x px, .Name y py, .Name z pz] [a, b, c]) :
    PS X (.Assign [.Tuple [.Name x px, .Name y py, .Name z pz] k pt] (.Tuple [a, b, c] k2 pt2) pos) (rdS (cx X fa ca Wx) fun ρ => sOf (evsL ps ρ) fun rv ρ1 => nxO (putRs [(i, x), (j, y), (l, z)] rv ρ1)) := by
  refine PS.mono (ps_par3 hc nd h1.hi h2.hi h3.hi hij hil hjl hx hy hz (pa_all _ _ h) (hw _ _ _ _)) fun D σ H q => ?_
  obtain ⟨W, ρ, rs, q⟩ := setP_read q
  refine ⟨W, ρ, rs, ?_⟩
  cases e : evsL ps ρ with
  | ok r ρ' =>
    rw [e] at q
    intro W' v H' g t
    obtain ⟨q1, q2⟩ := q W' v H' g t
    match v, q1 with
    | [v, w, u], _ => exact ⟨v, w, u, rfl, q2 H' fun _ _ e => e⟩
  | ex e' ρ' => rw [e] at q; exact q
  | bad => rw [e] at q; exact q
/-- the tuple is made and unpacked -/
theorem st_parT (hc : X.calm = true) (nd : X.N.Nodup) {ts : List (Nat × Str)} {es vs : List Expr} {ps : List Pr} {pt pt2 : Pos} {k k2 : Nat} (hn : NmsE X ts es) (h : Paired (Der X fa ca Wx) vs ps) (hz : ts.length ≤ 100) (hw : swappedStores [.Tuple es k pt] (.Tuple vs k2 pt2) X.env = pure none) :
    PS X (.Assign [.Tuple es k pt] (.Tuple vs k2 pt2) pos) (rdS (cx X fa ca Wx) fun ρ => sOf (evsL ps ρ) fun rv ρ1 => nxO (putRs ts rv ρ1)) := by
  refine PS.mono (ps_asg (pe_tup (pa_all _ _ h)) (pg_tup hc (pgs_nms nd hn) (n := ts.length) hn.len.1 hn.len.2) (sw_tup _ _ _ _ _ _) hw) fun D σ H q => ?_
  obtain ⟨W, ρ, rs, q⟩ := setP_read q
  refine ⟨W, ρ, rs, ?_⟩
  cases e : evsL ps ρ with
  | ok r ρ' =>
    rw [e] at q
    intro W' v H' g t
    obtain ⟨q1, q2⟩ := q W' v H' g t
    refine ⟨by rw [q1, sizeLine_eq]; omega, fun a ha => ⟨a, v, rfl, .inl (.inl upd_same), q1, q1, q2 _ fun b o e => grow_upd ha b o e⟩⟩
  | ex e' ρ' => rw [e] at q; exact q
  | bad => rw [e] at q; exact q
end
end Mp

set_option maxRecDepth 100000
set_option maxHeartbeats 4000000
/-! Mp15: statements: the others. -/
namespace Mp
open PySem PySem.Spec PyProof.Rows L2

/-- an owned list changes -/
theorem Fx.updL {K : PySem.W.Frag} {fa : FA} {W : Wd} {ρ : Env} {σ : L2.St} {H : Hp} (rs : RS K fa W ρ σ H) {i : Nat} {l : Bool} {ds ds' : List P} {a : Addr} {xs' : List V} (hi : ρ[i]? = some (Sl.own l (.d (.list ds)))) (ha : σ[i]? = some (some (V.ref a))) (hz : xs'.length ≤ sizeLine) (r : RpA K W H ds' xs') :
    Fx K fa W ρ σ H W (ρ.set i (.own l (.d (.list ds')))) σ (upd H a (.lst xs')) := by
  have wa : W a := rs.owW ⟨i, l, _, hi, ha⟩
  have hl : i < ρ.length := (List.getElem?_eq_some_iff.mp hi).1
  have hoth : ∀ b, b ≠ a → upd H a (.lst xs') b = H b := fun b hb => upd_ne hb
  have s : Stay W H W (upd H a (.lst xs')) := ⟨fun b o e n => by rw [hoth b (fun z => n (by rw [z]; exact wa))]; exact e, fun _ w => .inl w, rs.dom⟩
  have owi : ∀ j l' x, (ρ.set i (.own l (.d (.list ds'))))[j]? = some (Sl.own l' x) → ∃ x', ρ[j]? = some (Sl.own l' x') := fun j l' x e => by
    by_cases hj : i = j
    · subst hj
      rw [List.getElem?_set_self hl] at e
      cases e
      exact ⟨_, hi⟩
    · rw [List.getElem?_set_ne hj] at e
      exact ⟨x, e⟩
  refine ⟨⟨by rw [List.length_set]; exact rs.len, fun j x e => ?_, fun j l' x e => ?_, fun j k l1 l2 x1 x2 b e1 e2 e3 e4 => ?_, fun b w => ?_⟩, fun b o e n => ?_, fun b z => ?_, fun _ w => .inl w, fun _ w => .inl w, fun b e => ?_, fun j x e => ?_⟩
  · by_cases hj : i = j
    · subst hj
      rw [List.getElem?_set_self hl] at e
      cases e
    · rw [List.getElem?_set_ne hj] at e
      obtain ⟨v, e1, r1⟩ := rs.val j x e
      exact ⟨v, e1, s.rpD r1⟩
  · by_cases hj : i = j
    · subst hj
      rw [List.getElem?_set_self hl] at e
      cases e
      exact ⟨a, ha, wa, xs', upd_same, hz, s.rpA r⟩
    · rw [List.getElem?_set_ne hj] at e
      obtain ⟨b, e1, w, r1⟩ := rs.own j l' x e
      have hb : b ≠ a := fun z => by
        subst z
        exact hj (rs.inj i j l l' _ x b hi e ha e1)
      exact ⟨b, e1, w, s.rpO r1 fun o ho => by rw [hoth b hb]; exact ho⟩
  · obtain ⟨y1, f1⟩ := owi j l1 x1 e1
    obtain ⟨y2, f2⟩ := owi k l2 x2 e2
    exact rs.inj j k l1 l2 y1 y2 b f1 f2 e3 e4
  · by_cases hb : b = a
    · subst hb; exact ⟨_, upd_same, trivial⟩
    · obtain ⟨o, e, m⟩ := rs.dom b w
      exact ⟨o, by rw [hoth b hb]; exact e, m⟩
  · rw [hoth b (fun z => n ⟨i, l, _, hi, by rw [z]; exact ha⟩)]; exact e
  · obtain ⟨j, l', x, e1, e2⟩ := z
    obtain ⟨y, f⟩ := owi j l' x e1
    exact .inl ⟨j, l', y, f, e2⟩
  · by_cases hb : b = a
    · subst hb; rw [upd_same]; exact Option.some_ne_none _
    · rw [hoth b hb]; exact e
  · by_cases hj : i = j
    · subst hj
      rw [hi] at e
      cases e
      exact ⟨_, List.getElem?_set_self hl, rfl⟩
    · rw [List.getElem?_set_ne hj]
      exact ⟨x, e, rfl⟩
theorem FxE.ownF {K : PySem.W.Frag} {fa : FA} {W W' : Wd} {ρ ρ' : Env} {σ : L2.St} {H H' : Hp} (f : FxE K fa W ρ σ H W' ρ' H') {i : Nat} {x : D} {l : Bool} (e : ρ'[i]? = some (Sl.own l x)) : ∃ y a, ρ[i]? = some (Sl.own l y) ∧ σ[i]? = some (some (V.ref a)) ∧ W' a ∧ RpO K W' H' x a := by
  obtain ⟨y, hy⟩ := f.hs i l x e
  obtain ⟨a, h1, h2, h3⟩ := f.rs.own i l x e
  exact ⟨y, a, hy, h1, h2, h3⟩

section
variable {X : Cx} {fa ca : FA} {Wx : WX} {i : Nat} {x : Str} {e : Expr} {pos p' : Pos} {p : Pr}
theorem one_data {K : PySem.W.Frag} {W0 W1 : Wd} {ρ0 ρ : Env} {σ : L2.St} {H0 H : Hp} {r : RV} {v : V} {y : P} (rs0 : RS K fa W0 ρ0 σ H0) (f : FxE K fa W0 ρ0 σ H0 W1 ρ H) (q : RpR K fa (Ex_ H0) W1 ρ σ H r v) (e : datas [r] = some [y]) : Rp K W0 H y v := by
  have := RpRs.datas (.cons q (fun _ _ z => by unfold frV at z; cases z) .nil) e f.wm rs0.ex f.rs.dom
  cases this with
  | cons h _ => exact h
theorem datas1 {r : RV} {ys : List P} (e : datas [r] = some ys) : ∃ y, ys = [y] := by
  cases r with
  | sh x => cases x <;> first | (simp [datas] at e; exact ⟨_, e.symm⟩) | cases e
  | fr x => cases x <;> first | (simp [datas] at e; exact ⟨_, e.symm⟩) | cases e
  | br j => cases e
theorem sw_any (e : Expr) (o i : Expr) (p : Pos) (l : Nat) (env : PySem.Env) : swapsWithSole [.Subscript o i p] e l env = pure false := by cases e <;> rfl
theorem sw_sub (e : Expr) (o i : Expr) (p : Pos) (env : PySem.Env) : swappedStores [.Subscript o i p] e env = pure none := by cases e <;> rfl
theorem plain_tsub {o i : Expr} {p : Pos} (h : plainE i = true) (env : PySem.Env) : ∀ v, assign (.Subscript o i p) env v = (do
      let ov ← holding [v] (eval o env)
      let iv ← holding [v, ov] (eval i env)
      standAt p
      holding [v, ov, iv] (setItem ov iv v)
      release [v, ov, iv] []) := by
  cases i <;> first | exact fun _ => rfl | cases h
/-- a second expression, told from the beginning -/
theorem rdS_then2 {C : Ctx} {W W1 : Wd} {ρ ρ1 : Env} {σ : L2.St} {H H1 : Hp} {De : Ends} {f : Env → R RV} {k : RV → Env → SR} {Q' : VK} (f1 : FxE C.K C.fa W ρ σ H W1 ρ1 H1) (h : OcS C W ρ σ H De (sOf (f ρ1) k))
    (hk : ∀ W2 ρ2 H2 r v, FxE C.K C.fa W1 ρ1 σ H1 W2 ρ2 H2 → RpR C.K C.fa (Ex_ H1) W2 ρ2 σ H2 r v → OcS C W ρ σ H De (k r ρ2) → Q' v H2) : rd C f σ H1 Q' := by
  refine ⟨W1, ρ1, f1.rs, ?_⟩
  cases e : f ρ1 with
  | ok r ρ' =>
    rw [e] at h
    exact fun W' v H' g q => hk W' ρ' H' r v g q h
  | ex e' ρ' =>
    rw [e] at h
    exact fun c d W' H' g q => h c d W' σ H' (f1.trans g).fx q
  | bad =>
    rw [e] at h
    exact h
/-- xs[k] = e -/
theorem st_setIx {k : Expr} {tk te : Env → R RV} {tpos px : Pos} (hv : PE X (.Name x px) (tVar i)) (hk : PE X k (rd (cx X fa ca Wx) tk)) (he : PE X e (rd (cx X fa ca Wx) te)) (hpk : plainE k = true) :
    PS X (.Assign [.Subscript (.Name x px) k tpos] e pos) (rdS (cx X fa ca Wx) fun ρ => sOf (te ρ) fun r ρ1 => match ρ1[i]? with
    | some (.own _ (.d (.list _))) => sOf (tk ρ1) fun k ρ2 => nxO (ixSet i k r ρ2)
    | _ => .bad) := by
  refine PS.mono (ps_asg he (pg_sub hv hk set_list (plain_tsub hpk _)) (sw_any _ _ _ _ _ _) (sw_sub _ _ _ _ _)) fun D σ H ⟨W, ρ, rs, h⟩ => ?_
  refine rdS_then rs h fun W1 ρ1 H1 r v f1 q1 h1 => ?_
  split at h1
  · rename_i l ds hi
    obtain ⟨a, ha, _, _⟩ := f1.rs.own i l _ hi
    refine ⟨.ref a, ha, rdS_then2 f1 h1 fun W2 ρ2 H2 s u f2 q2 h2 => ?_⟩
    have f12 := f1.trans f2
    have q1' := q1.pers f1.rs f2
    have fS := FxE.shrink rs f12
    unfold ixSet at h2
    cases es : datas [s] with
    | none => rw [es] at h2; exact h2.elim
    | some ks =>
      obtain ⟨ky, rfl⟩ := datas1 es
      cases er : datas [r] with
      | none => rw [es, er] at h2; cases ky <;> exact h2.elim
      | some ys =>
        obtain ⟨y, rfl⟩ := datas1 er
        rw [es, er] at h2
        cases ky with
        | int j =>
          split at h2
          · rename_i _ _ l2 xs e1 e2 hi2
            cases e1
            cases e2
            cases en : ixN xs.length j with
            | none => rw [en] at h2; exact h2.elim
            | some n =>
              rw [en] at h2
              have ry := one_data rs f12 q1' er
              have rk := one_data f1.rs f2 q2 es
              cases rk
              obtain ⟨b, hb, _, vs, hvs, hz, ra⟩ := fS.rs.own i l2 _ hi2
              rw [ha] at hb
              cases hb
              refine ⟨a, vs, j, n, rfl, rfl, hvs, by rw [← ra.length]; exact en, ?_⟩
              exact h2 _ _ _ (Fx.trans rs fS.fx (Fx.updL fS.rs hi2 ha (by rw [List.length_set]; exact hz) (RpA.set ry n ra)))
          · exact h2.elim
        | _ => exact h2.elim
  · exact h1.elim
/-- xs.append(e) -/
theorem st_app {tpos px cpos : Pos} (hv : PE X (.Name x px) (tVar i)) {p : Pr} (d : Der X fa ca Wx e p) (hline : (tpos.endLine == cpos.line) = true) :
    PS X (.Expr (.Call (.Attribute (.Name x px) "append" tpos) [e] [] cpos) pos) (rdS (cx X fa ca Wx) fun ρ => match ρ[i]? with
    | some (.own _ (.d (.list _))) => sOf (p.v ρ) fun r ρ1 => nxO (appE i r ρ1)
    | _ => .bad) := by
  have hst := plain_star d.sy [] X.env
  refine PS.mono (ps_expr (pe_bm PySem.F.plainAttrs_list PySem.F.slot_list_append PySem.F.type_list_append mt_append hv (pa_cons d.v pa_nil hst) rfl (by rw [hst]; rfl) hline hst rfl)) fun D σ H ⟨W, ρ, rs, h⟩ => ?_
  dsimp only at h
  split at h
  · rename_i l ds hi
    obtain ⟨a, ha, _, vs, hvs, hz, ra⟩ := rs.own i l _ hi
    refine ⟨.ref a, ha, .inl ⟨rfl, vs, .inl (.inl hvs)⟩, ?_⟩
    refine rdS_then rs h fun W1 ρ1 H1 r v f1 q1 h1 => ?_
    have fS := FxE.shrink rs f1
    unfold appE at h1
    cases er : datas [r] with
    | none => rw [er] at h1; exact h1.elim
    | some ys =>
      obtain ⟨y, rfl⟩ := datas1 er
      rw [er] at h1
      split at h1
      · rename_i _ l2 xs e1 hi2
        cases e1
        split at h1
        · rename_i hlt
          have ry := one_data rs f1 q1 er
          obtain ⟨b, hb, _, vs2, hvs2, hz2, ra2⟩ := fS.rs.own i l2 _ hi2
          rw [ha] at hb
          cases hb
          have hl := ra2.length
          refine ⟨a, vs2, v, rfl, rfl, hvs2, by rw [← hl, sizeLine_eq]; exact hlt, ?_⟩
          refine h1 _ _ _ (Fx.trans rs fS.fx (Fx.updL fS.rs hi2 ha (by rw [List.length_append, List.length_singleton, ← hl, sizeLine_eq]; omega) (ra2.append (.cons ry .nil))))
        · exact h1.elim
      · exact h1.elim
  · exact h.elim
theorem set_self {σ : L2.St} {i : Nat} {v : Option V} (h : σ[i]? = some v) : σ.set i v = σ := by
  apply List.ext_getElem?
  intro j
  by_cases hj : i = j
  · subst hj
    rw [List.getElem?_set_self (List.getElem?_eq_some_iff.mp h).1, h]
  · rw [List.getElem?_set_ne hj]
def rAug (sub : Bool) : TIp := fun x y H Q => ipI (fun i j => if sub then i - j else i + j) x y H Q ∨ (sub = false ∧ rExt2 x y H Q)
theorem ip_aug (sub : Bool) : PIp X (if sub then .Sub else .Add) (rAug sub) := by
  cases sub with
  | true =>
    intro pins s σ H x y v u Q I rx ry h
    rcases h with h | ⟨h, _⟩
    · exact ip_sub pins s σ H x y v u Q I rx ry h
    · cases h
  | false =>
    intro pins s σ H x y v u Q I rx ry h
    rcases h with h | ⟨_, h⟩
    · exact ip_add pins s σ H x y v u Q I rx ry h
    · exact iop_ext pins s σ H x y v u Q I rx ry h
/-- x += e, x -= e: ints; xs += e -/
theorem st_aug (nd : X.N.Nodup) (h : StN X i x) {te : Env → R RV} (sub : Bool) (he : PE X e (rd (cx X fa ca Wx) te)) :
    PS X (.AugAssign (.Name x p') (if sub then .Sub else .Add) e pos) (rdS (cx X fa ca Wx) fun ρ => match ρ[i]? with
    | some (.val (.d (.int a))) => sOf (te ρ) fun r ρ1 => nxO (augE i sub a r ρ1)
    | some (.own _ (.d (.list _))) => if sub then .bad else sOf (te ρ) fun r ρ1 => nxO (extE i r ρ1)
    | _ => .bad) := by
  refine PS.mono (ps_aug nd h.hi h.loc he (ip_aug sub) h.hf) fun D σ H ⟨W, ρ, rs, h⟩ => ?_
  dsimp only at h
  split at h
  · rename_i a hi
    obtain ⟨u, hu, ru⟩ := rs.val i _ hi
    cases (show Rp X.K W H (.int a) u from ru)
    refine ⟨_, hu, rdS_then rs h fun W1 ρ1 H1 r v f1 q1 h1 => ?_⟩
    unfold augE at h1
    cases e1 : derefP ρ1 r with
    | none => rw [e1] at h1; exact h1.elim
    | some y =>
      rw [e1] at h1
      cases y with
      | int b =>
        have rb := q1.ro f1.rs e1
        rcases rb with rb | ⟨_, _, _, z, _⟩
        · cases rb
          refine .inl ⟨a, b, rfl, rfl, h1 _ _ _ (Fx.trans rs f1.fx (Fx.setVal f1.rs (.int _) fun y z => ?_))⟩
          obtain ⟨y', hy'⟩ := f1.hs i true y z
          rw [hi] at hy'
          cases hy'
        · cases z
      | _ => exact h1.elim
  · rename_i l ds hi
    cases sub with
    | true => rw [if_pos rfl] at h; exact h.elim
    | false =>
      rw [if_neg Bool.false_ne_true] at h
      obtain ⟨a, ha, _, vs, hvs, hz, ra⟩ := rs.own i l _ hi
      refine ⟨.ref a, ha, rdS_then rs h fun W1 ρ1 H1 r v f1 q1 h1 => ?_⟩
      have fS := FxE.shrink rs f1
      unfold extE at h1
      cases e1 : derefP ρ1 r with
      | none => rw [e1] at h1; exact h1.elim
      | some y =>
        rw [e1] at h1
        cases y with
        | list ys =>
          split at h1
          · rename_i _ _ zs l2 xs e2 e3
            cases e2
            split at h1
            · rename_i hlt
              obtain ⟨b, us, eb, hb, zb, rb⟩ := ro_lst (q1.ro f1.rs e1)
              subst eb
              obtain ⟨b', hb', _, vs2, hvs2, hz2, ra2⟩ := fS.rs.own i l2 _ e3
              rw [ha] at hb'
              cases hb'
              have l1 := ra2.length
              have l3 := rb.length
              refine .inr ⟨rfl, a, b, vs2, us, rfl, rfl, hvs2, hb, by rw [sizeLine_eq]; omega, ?_⟩
              show D.nx (σ.set i (some (V.ref a))) _
              rw [set_self ha]
              have s : Stay W1 H1 W H1 := Stay.shrink rs f1
              exact h1 _ _ _ (Fx.trans rs fS.fx (Fx.updL fS.rs e3 ha (by rw [List.length_append, sizeLine_eq]; omega) (ra2.append (s.rpA rb))))
            · exact h1.elim
          · exact h1.elim
        | _ => exact h1.elim
  · exact h.elim
end
end Mp

set_option maxRecDepth 100000
set_option maxHeartbeats 4000000
/-! Mp16: flow. -/
namespace Mp
open PySem PySem.Spec PyProof.Rows L2

section
variable {X : Cx} {fa ca : FA} {Wx : WX} {e : Expr} {pos p' : Pos} {p : Pr}
def notComp : Expr → Bool
  | .ListComp .. => false
  | .SetComp .. => false
  | .DictComp .. => false
  | _ => true
theorem sw_no {e : Expr} (h : notComp e = true) (t : Option Expr) (l : Nat) (env : PySem.Env) : swapsWith e t l env = pure false := by
  cases e <;> first | rfl | cases h
theorem st_expr {te : Env → R RV} (he : PE X e (rd (cx X fa ca Wx) te)) (h : notComp e = true) : PS X (.Expr e pos) (rdS (cx X fa ca Wx) fun ρ => sOf (te ρ) fun _ ρ1 => .nx ρ1) :=
  PS.mono (ps_expr he (sw_no h _ _ _)) fun D σ H ⟨W, ρ, rs, h⟩ => rdS_then rs h fun W1 ρ1 H1 r v f1 q1 h1 => h1 _ _ _ f1.fx
theorem st_doc {x : Str} {j : Option Str} : True := trivial
theorem st_ret {te : Env → R RV} (he : PE X e (rd (cx X fa ca Wx) te)) : PS X (.Return (some e) pos) (rdS (cx X fa ca Wx) fun ρ => sOf (te ρ) fun r ρ1 => .rt r ρ1) :=
  PS.mono (ps_ret he) fun D σ H ⟨W, ρ, rs, h⟩ => rdS_then rs h fun W1 ρ1 H1 r v f1 q1 h1 => h1 _ _ _ _ f1.fx q1
theorem st_retN : PS X (.Return none pos) (rdS (cx X fa ca Wx) fun ρ => sOf (R.ok (shP .none) ρ) fun r ρ1 => .rt r ρ1) :=
  PS.mono ps_retN fun D σ H ⟨W, ρ, rs, h⟩ => h _ _ _ _ (Fx.refl rs) .non
theorem st_ife {c : Expr} {a b : List Stmt} {tc : Env → R Bool} {ta tb : Env → SR} (hc : PT X c (rdT (cx X fa ca Wx) tc)) (ha : PSs X a (rdS (cx X fa ca Wx) ta)) (hb : PSs X b (rdS (cx X fa ca Wx) tb)) :
    PS X (.If c a b pos) (rdS (cx X fa ca Wx) fun ρ => sOf (tc ρ) fun t ρ1 => if t then ta ρ1 else tb ρ1) :=
  PS.mono (ps_if hc ha hb) fun D σ H ⟨W, ρ, rs, h⟩ => rdST_then rs h fun W1 ρ1 H1 b f1 h1 => by
    cases b with
    | true => exact OcS.rd f1.rs h1
    | false => exact OcS.rd f1.rs h1
/-! ### for -/
theorem for_read {C : Ctx} {tg : Tg} {ti : Env → R (List D)} {tb : Env → SR} {De : Ends} {σ : L2.St} {H : Hp} (h : rdS C (fun ρ => sOf (ti ρ) fun l ρ1 => forL tg tb l ρ1) De σ H) : tFor (rdI C ti) (gTg C tg) (rdS C tb) De σ H := by
  obtain ⟨W, ρ, rs, h⟩ := h
  dsimp only at h
  refine ⟨W, ρ, rs, ?_⟩
  cases e : ti ρ with
  | ex e' ρ' =>
    rw [e] at h
    exact fun c d W' H' g q => h c d W' σ H' g.fx q
  | bad => rw [e] at h; exact h
  | ok items ρ1 =>
    rw [e] at h
    intro W1 J H1 f1 hJ
    have rs1 := f1.rs
    have h1 : OcS C W1 ρ1 σ H1 De (forL tg tb items ρ1) := OcS.step rs f1.fx h
    clear h
    refine ⟨fun i m σ' H' => m + i = items.length ∧ ∃ W' ρ', Fx C.K C.fa W1 ρ1 σ H1 W' ρ' σ' H' ∧ OcS C W' ρ' σ' H' De (forL tg tb (items.drop i) ρ'), ⟨items.length, rfl, W1, ρ1, Fx.refl rs1, by rw [List.drop_zero]; exact h1⟩, ?_⟩
    rintro i m σ' H' ⟨hm, W', ρ', f, hh⟩
    obtain ⟨hgo, hstop⟩ := hJ.2 W' H' (f.stay rs1) f.rs.dom
    by_cases hi : i < items.length
    · refine .inr ?_
      have hx : items[i]? = some items[i] := List.getElem?_eq_getElem hi
      obtain ⟨go, hy⟩ := hgo i _ hx
      rw [List.drop_eq_getElem_cons hi] at hh
      unfold forL at hh
      refine ⟨go, fun σ3 H3 => ∃ W3 ρ3, Fx C.K C.fa W1 ρ1 σ H1 W3 ρ3 σ3 H3 ∧ OcS C W3 ρ3 σ3 H3 De (forL tg tb (items.drop (i + 1)) ρ3), fun σ3 H3 q => ⟨m - 1, by omega, by omega, q⟩, fun v Hy y => ?_⟩
      obtain ⟨g, rv⟩ := hy v Hy y
      have fg := (FxE.grow f.rs g).fx
      cases es : setTg tg items[i] ρ' with
      | none => rw [es] at hh; exact hh.elim
      | some ρ2 =>
        rw [es] at hh
        simp only at hh
        refine ⟨W', ρ', items[i], ρ2, fg.rs, rv, es, fun σ2 _ f2 => ⟨W', ρ2, f2.rs, ?_⟩⟩
        have fall : Fx C.K C.fa W' ρ' σ' H' W' ρ2 σ2 Hy := Fx.trans f.rs fg f2
        have h2 := OcS.step f.rs fall hh
        have fbase : Fx C.K C.fa W1 ρ1 σ H1 W' ρ2 σ2 Hy := Fx.trans rs1 f fall
        cases eb : tb ρ2 with
        | nx ρ3 =>
          rw [eb] at h2
          exact fun W3 σ3 H3 f3 => ⟨W3, ρ3, Fx.trans rs1 fbase f3, OcS.step f2.rs f3 h2⟩
        | ct ρ3 =>
          rw [eb] at h2
          exact fun W3 σ3 H3 f3 => ⟨W3, ρ3, Fx.trans rs1 fbase f3, OcS.step f2.rs f3 h2⟩
        | bk ρ3 =>
          rw [eb] at h2
          exact h2
        | rt r ρ3 =>
          rw [eb] at h2
          exact h2
        | ex e' ρ3 =>
          rw [eb] at h2
          exact h2
        | bad =>
          rw [eb] at h2
          exact h2
    · have ei : i = items.length := by omega
      refine .inl ⟨hstop i (by omega), ?_⟩
      subst ei
      rw [List.drop_length] at hh
      unfold forL at hh
      exact hh _ _ _ (Fx.refl f.rs)
theorem st_for {tg iter : Expr} {body : List Stmt} {tgT : Tg} {ti : Env → R (List D)} {tb : Env → SR} (hp : PassesOwn (model X.prog X.w) X.A X.env X.xe) (hc : X.calm = true) (hi : PI X tg iter (rdI (cx X fa ca Wx) ti)) (hg : PG X tg (gTg (cx X fa ca Wx) tgT)) (hb : PSs X body (rdS (cx X fa ca Wx) tb)) (hpl : plainE iter = true) :
    PS X (.For tg iter body [] pos) (rdS (cx X fa ca Wx) fun ρ => sOf (ti ρ) fun l ρ1 => forL tgT tb l ρ1) :=
  PS.mono (ps_for hp hc hi hg hb (plain_fold hpl _)) fun D σ H h => for_read h
/-! ### while -/
theorem whl_read {C : Ctx} {n : Nat} {tc : Env → R Bool} {tb : Env → SR} {De : Ends} {σ : L2.St} {H : Hp} (h : rdS C (fun ρ => whlL tc tb n ρ) De σ H) : tWhile (rdT C tc) (rdS C tb) De σ H := by
  obtain ⟨W, ρ, rs, h⟩ := h
  refine ⟨fun m σ' H' => ∃ W' ρ', Fx C.K C.fa W ρ σ H W' ρ' σ' H' ∧ OcS C W' ρ' σ' H' De (whlL tc tb m ρ'), ⟨n, W, ρ, Fx.refl rs, h⟩, ?_⟩
  rintro m σ' H' ⟨W', ρ', f, hh⟩
  cases m with
  | zero => exact hh.elim
  | succ m =>
    unfold whlL at hh
    refine rdST_then f.rs hh fun W1 ρ1 H1 b f1 h1 => ?_
    have fb : Fx C.K C.fa W ρ σ H W1 ρ1 σ' H1 := Fx.trans rs f f1.fx
    cases b with
    | false =>
      rw [if_neg Bool.false_ne_true] at h1 ⊢
      exact h1 _ _ _ (Fx.refl f1.rs)
    | true =>
      rw [if_pos rfl] at h1 ⊢
      refine ⟨fun σ3 H3 => ∃ W3 ρ3, Fx C.K C.fa W ρ σ H W3 ρ3 σ3 H3 ∧ OcS C W3 ρ3 σ3 H3 De (whlL tc tb m ρ3), fun σ3 H3 q => ⟨m, by omega, q⟩, W1, ρ1, f1.rs, ?_⟩
      cases eb : tb ρ1 with
      | nx ρ3 =>
        rw [eb] at h1
        exact fun W3 σ3 H3 f3 => ⟨W3, ρ3, Fx.trans rs fb f3, OcS.step f1.rs f3 h1⟩
      | ct ρ3 =>
        rw [eb] at h1
        exact fun W3 σ3 H3 f3 => ⟨W3, ρ3, Fx.trans rs fb f3, OcS.step f1.rs f3 h1⟩
      | bk ρ3 => rw [eb] at h1; exact h1
      | rt r ρ3 => rw [eb] at h1; exact h1
      | ex e' ρ3 => rw [eb] at h1; exact h1
      | bad => rw [eb] at h1; exact h1
theorem st_whl {c : Expr} {body : List Stmt} {n : Nat} {tc : Env → R Bool} {tb : Env → SR} (hp : PassesOwn (model X.prog X.w) X.A X.env X.xe) (hc : PT X c (rdT (cx X fa ca Wx) tc)) (hb : PSs X body (rdS (cx X fa ca Wx) tb)) :
    PS X (.While c body [] pos) (rdS (cx X fa ca Wx) fun ρ => whlL tc tb n ρ) :=
  PS.mono (ps_while hp hc hb) fun D σ H h => whl_read h
/-! ### raise -/
theorem st_raise {x m : Str} {j : Nat} {p1 p2 p3 : Pos} {c : Nat} {bmB : List Value} {B newId initId : String} (hc : X.calm = true) (tk : Takes X Wx) (F : ExcBaseFacts B newId initId bmB) (q : PySem.W.excIn X.K (ca c) bmB newId = true) (gC : X.mg x = some (.ref (ca c))) (kC : PySem.W.keepIn X.K (.ref (ca c)) = true) (r : Raises X (.ref (ca c))) (hg : Gl X x) (hdb : (x == ("__debug__" : Str)) = false) :
    PS X (.Raise (some (.Call (.Name x p1) [.Constant (.str m) j p2] [] p3)) none pos) (rdS (cx X fa ca Wx) fun ρ => .ex ⟨c, []⟩ ρ) :=
  PS.mono (ps_raise hc tk (pmk_own F q gC kC r hg hdb)) fun D σ H ⟨W, ρ, rs, h⟩ => h _ _ _ _ _ (Fx.refl rs) ⟨rfl, rfl, rfl⟩
/-! ### blocks -/
theorem ss_nil : PSs X [] (rdS (cx X fa ca Wx) fun ρ => .nx ρ) := PSs.mono pss_nil fun D σ H ⟨W, ρ, rs, h⟩ => h _ _ _ (Fx.refl rs)
def thenS (f g : Env → SR) (ρ : Env) : SR := match f ρ with
  | .nx ρ1 => g ρ1
  | r => r
theorem ss_cons {s : Stmt} {r : List Stmt} {f g : Env → SR} (h1 : PS X s (rdS (cx X fa ca Wx) f)) (h2 : PSs X r (rdS (cx X fa ca Wx) g)) : PSs X (s :: r) (rdS (cx X fa ca Wx) (thenS f g)) :=
  PSs.mono (pss_cons h1 h2) fun D σ H ⟨W, ρ, rs, h⟩ => by
    refine ⟨W, ρ, rs, ?_⟩
    unfold thenS at h
    cases e : f ρ with
    | nx ρ1 => rw [e] at h; exact fun W1 σ1 H1 f1 => ⟨W1, ρ1, f1.rs, OcS.step rs f1 h⟩
    | bk ρ1 => rw [e] at h; exact h
    | ct ρ1 => rw [e] at h; exact h
    | rt r ρ1 => rw [e] at h; exact h
    | ex e' ρ1 => rw [e] at h; exact h
    | bad => rw [e] at h; exact h
/-- an owned object is given away -/
theorem frz_fx {K : PySem.W.Frag} {fa : FA} {W : Wd} {ρ ρ' : Env} {σ : L2.St} {H : Hp} {i : Nat} (rs : RS K fa W ρ σ H) (e : frzE i ρ = some ρ') : ∃ W', Fx K fa W ρ σ H W' ρ' σ H := by
  unfold frzE at e
  split at e
  · rename_i x hi
    cases e
    obtain ⟨a, ha, wa, r⟩ := rs.own i false x hi
    have hl : i < ρ.length := (List.getElem?_eq_some_iff.mp hi).1
    have sub : ∀ b, (W b ∧ b ≠ a) → W b := fun _ z => z.1
    refine ⟨fun b => W b ∧ b ≠ a, ⟨⟨by rw [List.length_set]; exact rs.len, fun j y e => ?_, fun j l y e => ?_, fun j k l l' y y' b e1 e2 e3 e4 => ?_, fun b w => rs.dom b w.1⟩, fun b o e _ => e, fun b z => ?_, fun b w => .inl w.1, fun b w => ?_, fun b e => e, fun j y e => ?_⟩⟩
    · by_cases hj : i = j
      · subst hj
        rw [List.getElem?_set_self hl] at e
        cases e
        exact ⟨_, ha, r.give (fun z => z.2 rfl) sub rs.dom⟩
      · rw [List.getElem?_set_ne hj] at e
        obtain ⟨v, e1, r1⟩ := rs.val j y e
        exact ⟨v, e1, r1.sub sub rs.dom⟩
    · by_cases hj : i = j
      · subst hj
        rw [List.getElem?_set_self hl] at e
        cases e
      · rw [List.getElem?_set_ne hj] at e
        obtain ⟨b, e1, w, r1⟩ := rs.own j l y e
        exact ⟨b, e1, ⟨w, fun z => by subst z; exact hj (rs.inj i j false l x y b hi e ha e1)⟩, r1.sub sub rs.dom⟩
    · by_cases hj : i = j
      · subst hj; rw [List.getElem?_set_self hl] at e1; cases e1
      · by_cases hk : i = k
        · subst hk; rw [List.getElem?_set_self hl] at e2; cases e2
        · rw [List.getElem?_set_ne hj] at e1
          rw [List.getElem?_set_ne hk] at e2
          exact rs.inj j k l l' y y' b e1 e2 e3 e4
    · obtain ⟨j, l, y, e1, e2⟩ := z
      by_cases hj : i = j
      · subst hj; rw [List.getElem?_set_self hl] at e1; cases e1
      · rw [List.getElem?_set_ne hj] at e1
        exact .inl ⟨j, l, y, e1, e2⟩
    · by_cases hb : b = a
      · subst hb; exact .inr ⟨i, false, x, hi, ha⟩
      · exact .inl ⟨w, hb⟩
    · have hj : i ≠ j := fun z => by subst z; rw [hi] at e; cases e
      rw [List.getElem?_set_ne hj]
      exact ⟨y, e, rfl⟩
  · cases e; exact ⟨W, Fx.refl rs⟩
  · cases e
theorem ss_frz {i : Nat} {r : List Stmt} {f : Env → SR} (h : PSs X r (rdS (cx X fa ca Wx) f)) : PSs X r (rdS (cx X fa ca Wx) fun ρ => match frzE i ρ with
    | some ρ1 => f ρ1
    | none => .bad) := PSs.mono h fun D σ H ⟨W, ρ, rs, h⟩ => by
  dsimp only at h
  cases e : frzE i ρ with
  | none => rw [e] at h; exact h.elim
  | some ρ1 =>
    rw [e] at h
    obtain ⟨W', fz⟩ := frz_fx rs e
    exact ⟨W', ρ1, fz.rs, OcS.step rs fz h⟩
end
end Mp

set_option maxRecDepth 100000
set_option maxHeartbeats 4000000
/-! Mp17: from the text to the evaluator's language; expressions. -/
namespace Mp
open PySem PySem.Spec PyProof.Rows L2

/-- what a name of the module is -/
inductive GV where
  | fn (i : Nat)
  | cst (c : P)
  | exc (c : Nat)
structure CE where
  N : List Str
  sc : Scope
  fn : Str → Bool
  /-- the module's names -/
  g : List (Str × GV)
  /-- names that the module leaves free -/
  b : List Str
def visB (sc : Scope) (x : Str) : Bool := match sc.names.lookup x with
  | some .local => true | some .cell => true | some .free => true | _ => false
theorem visB_ok {sc : Scope} {x : Str} (h : visB sc x = true) : Vis sc x := by
  unfold visB at h
  split at h
  · rename_i e; exact .inl e
  · rename_i e; exact .inr (.inl e)
  · rename_i e; exact .inr (.inr e)
  · cases h
def glB (sc : Scope) (x : Str) : Bool := (match sc.names.lookup x with
  | some .globalImplicit => true | _ => false) && !(x == ("__debug__" : Str))
def slB (ce : CE) (x : Str) : Option Nat := if visB ce.sc x && !(x == ("__debug__" : Str)) && !(x == ("__classdict__" : Str)) then (match ce.N.findIdx? (· == x) with
    | some i => if ce.N[i]? = some x then some i else none
    | none => none) else none
def cName (ce : CE) (x : Str) : Option Tm := match slB ce x with
  | some i => some (.var i x)
  | none => if glB ce.sc x then (match ce.g.lookup x with
    | some (.fn i) => some (.fn i)
    | some (.cst c) => some (.glob x c)
    | _ => none) else none
def cConst : Const → Option Tm
  | .none => some (.cst .none)
  | .bool b => some (.cst (.bool b))
  | .int i => some (.cst (.int i))
  | .str s => if PyData.strOk s && decide (s.length ≤ 16777216) then some (.cst (.str s)) else none
  | _ => none
def cBin : Operator → Option BOp
  | .Add => some .add | .Sub => some .sub | .Mult => some .mul | .FloorDiv => some .fdiv | .Mod => some .mod | .Pow => some .pow
  | _ => none
theorem cBin_ok {op : Operator} {o : BOp} (h : cBin op = some o) : op = o.op := by
  cases op <;> first | (cases h; rfl) | cases h
def cCmp : CmpOp → Option COp
  | .Eq => some .eq | .NotEq => some .ne | .Lt => some .lt | .Gt => some .gt | .LtE => some .le | .GtE => some .ge
  | .Is => some .is | .IsNot => some .isnot | .In => some .in_ | .NotIn => some .notin
theorem cCmp_ok {op : CmpOp} {o : COp} (h : cCmp op = some o) : op = o.op := by
  cases op <;> first | (cases h; rfl) | cases h
def cL (f : Expr → Option Tm) : List Expr → Option Tms
  | [] => some .nil
  | e :: es => match f e, cL f es with
    | some t, some ts => some (.cons t ts)
    | _, _ => none
def cTo (f : Expr → Option Tm) : Option Expr → Option To
  | none => some .no
  | some e => (f e).map .yes
def isRev : Expr → Bool
  | .Slice none none (some (.UnaryOp .USub (.Constant (.int 1) _ _) _)) _ => true
  | _ => false
def cSub (f : Expr → Option Tm) (a : Expr) : Expr → Option Tm
  | .Slice lo hi none _ => match f a, cTo f lo, cTo f hi with
    | some t, some l, some h => some (.sl t l h)
    | _, _, _ => none
  | i => if isRev i then (f a).map .rev else if plainE i then (match f a, f i with
    | some s, some t => some (.ix s t)
    | _, _ => none) else none
def biTab : List (Str × Bi) := [("len", .len), ("tuple", .tuple), ("all", .all), ("int", .int), ("list", .list), ("abs", .abs), ("any", .any), ("sum", .sum), ("str", .str)]
def tyTab : List (Str × Ty) := [("tuple", .tuple), ("int", .int), ("bool", .bool), ("str", .str), ("list", .list)]
/-- the name is a builtin's here -/
def bltB (ce : CE) (x : Str) : Bool := glB ce.sc x && decide (x ∈ ce.b)
def cCall (ce : CE) (f : Expr → Option Tm) (x : Str) (es : List Expr) : Option Tm := match ce.g.lookup x with
  | some (.fn i) => if glB ce.sc x then (cL f es).map (.call i) else none
  | some _ => none
  | none => if bltB ce x then (match es with
    | [a] => (match biTab.lookup x, f a with
      | some b, some t => some (.bi b t)
      | _, _ => none)
    | [a, .Name T _] => if x = ("isinstance" : Str) then (match tyTab.lookup T, f a with
      | some ty, some t => if bltB ce T then some (.bi (.isi ty) t) else none
      | _, _ => none) else none
    | _ => none) else none
/-- a name that is stored -/
def stB (ce : CE) (x : Str) : Option Nat := match slB ce x, ce.sc.names.lookup x with
  | some i, some .local => some i
  | some i, some .cell => if ce.fn x = true then some i else none
  | _, _ => none
def cNms (ce : CE) : List Expr → Option (List (Nat × Str))
  | [] => some []
  | .Name x _ :: es => match stB ce x, cNms ce es with
    | some i, some r => some ((i, x) :: r)
    | _, _ => none
  | _ => none
def cTg (ce : CE) : Expr → Option Tg
  | .Name x _ => (stB ce x).map fun i => .nm i x
  | .Tuple es _ _ => (cNms ce es).map .tp
  | _ => none
def isTup : Expr → Bool
  | .Tuple .. => true
  | _ => false
inductive ItK where | rng | rng2 | zip | enum | seq
def itK (ce : CE) (tg : Expr) (x : Str) (es : List Expr) : ItK := match es with
  | [_] => if x = ("range" : Str) then .rng else if x = ("enumerate" : Str) ∧ isTup tg = true then .enum else .seq
  | [_, _] => if x = ("range" : Str) then .rng2 else if x = ("zip" : Str) ∧ isTup tg = true then .zip else .seq
  | _ => .seq
def cIt (ce : CE) (f : Expr → Option Tm) (tg : Expr) (e : Expr) : Option Tit := match e with
  | .Call (.Name x p) es [] pos => match itK ce tg x es, es with
    | .rng, [a] => if bltB ce x then (f a).map .rng else none
    | .enum, [a] => if bltB ce x then (f a).map .enum else none
    | .rng2, [a, b] => if bltB ce x then (match f a, f b with
      | some s, some t => some (.rng2 s t)
      | _, _ => none) else none
    | .zip, [a, b] => if bltB ce x then (match f a, f b with
      | some s, some t => some (.zip s t)
      | _, _ => none) else none
    | .seq, _ => (f (.Call (.Name x p) es [] pos)).map .seq
    | _, _ => none
  | e => (f e).map .seq
def CE.blk (ce : CE) (scope : Scope) : CE := { ce with sc := relS scope ce.sc, fn := fun x => scope.names.lookup x == some .cell }
/-- a block's own names, with their slots -/
def ownN (N : List Str) (scope : Scope) : List (Str × Nat) := scope.names.filterMap fun y => match y.2 with
  | .local => (N.findIdx? (· == y.1)).map fun i => (y.1, i)
  | .cell => (N.findIdx? (· == y.1)).map fun i => (y.1, i)
  | _ => none
def cIfs (f : Expr → Option Tm) : List Expr → Option To
  | [] => some .no
  | [c] => (f c).map .yes
  | _ => none
def cE (ce : CE) : Nat → Expr → Option Tm
  | 0, _ => none
  | n + 1, e => match e with
    | .Name x _ => cName ce x
    | .Constant c _ _ => cConst c
    | .BinOp a op b _ => (match cBin op, cE ce n a, cE ce n b with
      | some o, some s, some t => some (.bin o s t)
      | _, _, _ => none)
    | .UnaryOp .USub a _ => (cE ce n a).map .neg
    | .UnaryOp .Not a _ => (cE ce n a).map .notE
    | .BoolOp op (e :: es) _ => (cL (cE ce n) (e :: es)).map (.bop (match op with | .Or => true | .And => false))
    | .Compare a [op] [b] _ => (match cCmp op, cE ce n a, cE ce n b with
      | some o, some s, some t => some (.cmp o s t)
      | _, _, _ => none)
    | .Compare a [op, op'] [b, c] _ => (match cCmp op, cCmp op', cE ce n a, cE ce n b, cE ce n c with
      | some o, some o', some s, some t, some u => some (.chain o o' s t u)
      | _, _, _, _, _ => none)
    | .IfExp c a b _ => (match cE ce n c, cE ce n a, cE ce n b with
      | some s, some t, some u => some (.ife s t u)
      | _, _, _ => none)
    | .Tuple es _ _ => (cL (cE ce n) es).map .tup
    | .List es _ => (cL (cE ce n) es).map .lst
    | .Subscript a i _ => cSub (cE ce n) a i
    | .Call (.Name x _) es [] _ => cCall ce (cE ce n) x es
    | .ListComp elt [⟨tg, iter, ifs, 0⟩] scope _ =>
      if blkC ce.N ce.sc scope (ownN ce.N scope) then
      (match cIt ce (cE ce n) tg iter, cTg (ce.blk scope) tg, cIfs (cE (ce.blk scope) n) ifs, cE (ce.blk scope) n elt with
      | some it, some g, some c, some t => if plainE iter && g.ix.all (fun i => decide (i ∈ (ownN ce.N scope).map (·.2))) then some (.comp (ownN ce.N scope) g it c t) else none
      | _, _, _, _ => none) else none
    | _ => none

/-! ### it is the text's meaning -/
structure ExcOk (X : Cx) (ca : FA) (c : Nat) (x : Str) : Prop where
  F : ∃ bmB B newId initId, ExcBaseFacts B newId initId bmB ∧ PySem.W.excIn X.K (ca c) bmB newId = true
  mg : X.mg x = some (.ref (ca c))
  kp : PySem.W.keepIn X.K (.ref (ca c)) = true
  r : Raises X (.ref (ca c))
structure XOk (ce : CE) (fa ca : FA) (k : Nat) (Φ : Fs) (Wx : WX) (X : Cx) : Prop where
  N : X.N = ce.N
  sc : X.env.scope = ce.sc
  fn : ∀ x, ce.fn x = true → X.fn x = true
  nd : X.N.Nodup
  calm : X.calm = true
  un : Un X
  room : Room k X.A
  tk : Takes X Wx
  fns : ∀ x i, ce.g.lookup x = some (.fn i) → FnC X fa ca k Φ i x
  cst : ∀ x c, ce.g.lookup x = some (.cst c) → ∃ u v, X.mg x = some u ∧ RelV v u ∧ ∀ W H, Rp X.K W H c v
  exc : ∀ x c, ce.g.lookup x = some (.exc c) → ExcOk X ca c x
  blt : ∀ x ∈ ce.b, X.mg x = none
theorem XOk.blk {ce : CE} {fa ca : FA} {k : Nat} {Φ : Fs} {Wx : WX} {X : Cx} (h : XOk ce fa ca k Φ Wx X) (s : Shared) (H : Hp) (scope : Scope) (C : Addr) (cl : List (Str × Addr)) (fp : List Addr) : XOk (ce.blk scope) fa ca k Φ WF (X.blk s H scope (compEnvC scope cl C X.env) fp) where
  N := h.N
  sc := by show relS scope X.env.scope = relS scope ce.sc; rw [h.sc]
  fn := fun x hx => hx
  nd := h.nd
  calm := h.calm
  un := h.un
  room := h.room
  tk := takes0
  fns := fun x i e => ⟨(h.fns x i e).mg, (h.fns x i e).kp, (h.fns x i e).ok⟩
  cst := h.cst
  exc := fun x c e => ⟨(h.exc x c e).F, (h.exc x c e).mg, (h.exc x c e).kp, (h.exc x c e).r⟩
  blt := h.blt
section
variable {ce : CE} {fa ca : FA} {k : Nat} {Φ : Fs} {Wx : WX} {X : Cx}
theorem glB_ok {x : Str} (h : XOk ce fa ca k Φ Wx X) (e : glB ce.sc x = true) : Gl X x ∧ (x == ("__debug__" : Str)) = false := by
  unfold glB at e
  rw [Bool.and_eq_true] at e
  obtain ⟨e1, e2⟩ := e
  refine ⟨?_, by simpa using e2⟩
  show X.env.scope.names.lookup x = some .globalImplicit
  rw [h.sc]
  split at e1
  · assumption
  · cases e1
theorem slB_ok {x : Str} {i : Nat} (h : XOk ce fa ca k Φ Wx X) (e : slB ce x = some i) : X.N[i]? = some x ∧ Vis X.env.scope x ∧ (x == ("__debug__" : Str)) = false ∧ (x == ("__classdict__" : Str)) = false := by
  unfold slB at e
  split at e
  · rename_i hc
    rw [Bool.and_eq_true, Bool.and_eq_true] at hc
    obtain ⟨⟨h1, h2⟩, h3⟩ := hc
    split at e
    · split at e
      · rename_i hi
        cases e
        exact ⟨by rw [h.N]; exact hi, by rw [h.sc]; exact visB_ok h1, by simpa using h2, by simpa using h3⟩
      · cases e
    · cases e
  · cases e
theorem stB_ok {x : Str} {i : Nat} (h : XOk ce fa ca k Φ Wx X) (e : stB ce x = some i) : StN X i x := by
  unfold stB at e
  split at e
  · rename_i j e1 hl
    cases e
    obtain ⟨h1, _⟩ := slB_ok h e1
    refine ⟨h1, .inl ?_, .inr ?_⟩ <;> rw [h.sc] <;> exact hl
  · rename_i j e1 hl
    obtain ⟨h1, _⟩ := slB_ok h e1
    split at e
    · rename_i hc
      cases e
      exact ⟨h1, .inr (by rw [h.sc]; exact hl), .inl (h.fn _ hc)⟩
    · cases e
  · cases e
theorem cNms_ok (h : XOk ce fa ca k Φ Wx X) : ∀ {es : List Expr} {ts : List (Nat × Str)}, cNms ce es = some ts → NmsE X ts es
  | [], _, e => by cases e; exact .nil
  | e0 :: es, ts, e => by
    cases e0 <;> first
      | (unfold cNms at e
         split at e
         · rename_i h1 h2
           cases e
           exact .cons (stB_ok h h1) (cNms_ok h h2)
         · cases e)
      | (unfold cNms at e; cases e)
theorem cTg_ok (h : XOk ce fa ca k Φ Wx X) {e : Expr} {t : Tg} (hc : cTg ce e = some t) (W : WX) : PG X e (gTg (cx X fa ca W) t) := by
  cases e <;> first
    | (unfold cTg at hc
       obtain ⟨i, h1, h2⟩ := Option.map_eq_some_iff.mp hc
       subst h2
       first
         | exact tg_nm h.nd (stB_ok h h1)
         | exact tg_tp h.calm h.nd (cNms_ok h h1))
    | (unfold cTg at hc; cases hc)
theorem bltB_ok {x : Str} (h : XOk ce fa ca k Φ Wx X) (e : bltB ce x = true) : Gl X x ∧ (x == ("__debug__" : Str)) = false ∧ X.mg x = none := by
  unfold bltB at e
  rw [Bool.and_eq_true, decide_eq_true_eq] at e
  exact ⟨(glB_ok h e.1).1, (glB_ok h e.1).2, h.blt _ e.2⟩
def DerF (X : Cx) (fa ca : FA) (Φ : Fs) (Wx : WX) (f : Expr → Option Tm) : Prop := ∀ e t, f e = some t → Der X fa ca Wx e (ev Φ t)
theorem cL_ok {f : Expr → Option Tm} (ih : DerF X fa ca Φ Wx f) : ∀ {es : List Expr} {ts : Tms}, cL f es = some ts → Paired (Der X fa ca Wx) es (evl Φ ts)
  | [], _, e => by cases e; exact .nil
  | e0 :: es, ts, e => by
    unfold cL at e
    split at e
    · rename_i h1 h2
      cases e
      exact .cons (ih _ _ h1) (cL_ok ih h2)
    · cases e
theorem cTo_ok {f : Expr → Option Tm} (ih : DerF X fa ca Φ Wx f) {e : Option Expr} {t : To} (h : cTo f e = some t) : PO X e (rdO (cx X fa ca Wx) (evo Φ t)) := by
  cases e with
  | none => cases h; exact po_no
  | some e =>
    obtain ⟨s, h1, h2⟩ := Option.map_eq_some_iff.mp h
    subst h2
    exact po_yes (ih _ _ h1).v
/-- by its value -/
theorem der_v {e : Expr} {f : Env → R RV} (hv : PE X e (rd (cx X fa ca Wx) f)) (hs : plainE e = true) (he : ∀ whole, isTrue e X.env whole = (do let v ← whole; standAt e.pos; holding [v] (truthy v))) : Der X fa ca Wx e (ofV f) :=
  ⟨hv, et_of_val he hv, fun _ => rfl, hs⟩
theorem cConst_ok {c : Const} {kk : Nat} {pos : Pos} {t : Tm} (h : cConst c = some t) : Der X fa ca Wx (.Constant c kk pos) (ev Φ t) := by
  cases c with
  | none => cases h; exact der_v ex_const_none rfl fun _ => rfl
  | bool b => cases h; exact der_v (ex_const_bool b) rfl fun _ => rfl
  | int i => cases h; exact der_v (ex_const_int i) rfl fun _ => rfl
  | str s =>
    have h : (if (PyData.strOk s && decide (s.length ≤ 16777216)) = true then some (Tm.cst (.str s)) else none) = some t := h
    split at h
    · rename_i hc
      rw [Bool.and_eq_true, decide_eq_true_eq] at hc
      cases h
      exact der_v (ex_const_str s hc.1 hc.2) rfl fun _ => rfl
    · cases h
  | _ => cases h
theorem cName_ok (h : XOk ce fa ca k Φ Wx X) {x : Str} {pos : Pos} {t : Tm} (e : cName ce x = some t) : Der X fa ca Wx (.Name x pos) (ev Φ t) := by
  unfold cName at e
  cases e1 : slB ce x with
  | some i =>
    rw [e1] at e
    cases e
    obtain ⟨h1, h2, h3, h4⟩ := slB_ok h e1
    exact der_v (ex_var i h1 h2 h3 h4) rfl fun _ => rfl
  | none =>
    rw [e1] at e
    simp only at e
    split at e
    · rename_i hg
      obtain ⟨g1, g2⟩ := glB_ok h hg
      split at e
      · rename_i i el
        cases e
        refine der_v (PE.mono (pe_glob g1 (h.fns _ _ el).mg (show RelV (V.ref (fa i)) (.ref (fa i)) from rfl) g2) fun σ H Q ⟨W, ρ, rs, q⟩ => ?_) rfl fun _ => rfl
        exact q W _ H (FxE.refl rs) rfl
      · rename_i c el
        cases e
        obtain ⟨u, v, hm, r, rp⟩ := h.cst _ _ el
        refine der_v (PE.mono (pe_glob g1 hm r g2) fun σ H Q ⟨W, ρ, rs, q⟩ => ?_) rfl fun _ => rfl
        exact q W _ H (FxE.refl rs) (rp W H)
      · cases e
    · cases e
end
end Mp

set_option maxRecDepth 100000
set_option maxHeartbeats 4000000
/-! Mp18: the text's expressions mean what the evaluator says. -/
namespace Mp
open PySem PySem.Spec PyProof.Rows L2

theorem boot_all' : bootBuiltins "all" = some (.builtin "all") := by kernel_rfl
theorem boot_any' : bootBuiltins "any" = some (.builtin "any") := by kernel_rfl
theorem boot_len' : bootBuiltins "len" = some (.builtin "len") := by kernel_rfl
theorem boot_abs' : bootBuiltins "abs" = some (.builtin "abs") := by kernel_rfl
theorem boot_sum' : bootBuiltins "sum" = some (.builtin "sum") := by kernel_rfl
theorem boot_int' : bootBuiltins "int" = some (.type "int") := by kernel_rfl
theorem boot_str' : bootBuiltins "str" = some (.type "str") := by kernel_rfl
theorem boot_tuple' : bootBuiltins "tuple" = some (.type "tuple") := by kernel_rfl

section
variable {ce : CE} {fa ca : FA} {k : Nat} {Φ : Fs} {Wx : WX} {X : Cx}
theorem bi_ok (h : XOk ce fa ca k Φ Wx X) {x : Str} {b : Bi} (hb : biTab.lookup x = some b) (hx : bltB ce x = true) {a : Expr} {t : Tm} (d : Der X fa ca Wx a (ev Φ t)) {p pos : Pos} : Der X fa ca Wx (.Call (.Name x p) [a] [] pos) (ev Φ (.bi b t)) := by
  obtain ⟨g, gd, gm⟩ := bltB_ok h hx
  have hm := PySem.mem_of_lookup hb
  simp only [biTab, List.mem_cons, Prod.mk.injEq, List.not_mem_nil, or_false] at hm
  rcases hm with ⟨rfl, rfl⟩ | ⟨rfl, rfl⟩ | ⟨rfl, rfl⟩ | ⟨rfl, rfl⟩ | ⟨rfl, rfl⟩ | ⟨rfl, rfl⟩ | ⟨rfl, rfl⟩ | ⟨rfl, rfl⟩ | ⟨rfl, rfl⟩
  · exact der_v (ex_biB cD_len g gm boot_len' (by decide) gd d) rfl fun _ => rfl
  · exact der_v (ex_biT cD_tuple g gm boot_tuple' (by decide) gd d) rfl fun _ => rfl
  · exact der_v (ex_biB (cD_all h.calm) g gm boot_all' (by decide) gd d) rfl fun _ => rfl
  · exact der_v (ex_biT cD_int g gm boot_int' (by decide) gd d) rfl fun _ => rfl
  · exact der_v (ex_list (x := "list") g gm d) rfl fun _ => rfl
  · exact der_v (ex_biB cD_abs g gm boot_abs' (by decide) gd d) rfl fun _ => rfl
  · exact der_v (ex_biB (cD_any h.calm) g gm boot_any' (by decide) gd d) rfl fun _ => rfl
  · exact der_v (ex_biB (cD_sum h.calm) g gm boot_sum' (by decide) gd d) rfl fun _ => rfl
  · exact der_v (ex_biT cD_str g gm boot_str' (by decide) gd d) rfl fun _ => rfl
theorem isi_ok (h : XOk ce fa ca k Φ Wx X) {T : Str} {ty : Ty} (hb : tyTab.lookup T = some ty) (hx : bltB ce "isinstance" = true) (hT : bltB ce T = true) {a : Expr} {t : Tm} (d : Der X fa ca Wx a (ev Φ t)) {p p2 pos : Pos} : Der X fa ca Wx (.Call (.Name "isinstance" p) [a, .Name T p2] [] pos) (ev Φ (.bi (.isi ty) t)) := by
  obtain ⟨g, gd, gm⟩ := bltB_ok h hx
  obtain ⟨g2, gd2, gm2⟩ := bltB_ok h hT
  have hm := PySem.mem_of_lookup hb
  simp only [tyTab, List.mem_cons, Prod.mk.injEq, List.not_mem_nil, or_false] at hm
  rcases hm with ⟨rfl, rfl⟩ | ⟨rfl, rfl⟩ | ⟨rfl, rfl⟩ | ⟨rfl, rfl⟩ | ⟨rfl, rfl⟩
  · exact der_v (ex_isi .tuple g gm g2 gm2 d) rfl fun _ => rfl
  · exact der_v (ex_isi .int g gm g2 gm2 d) rfl fun _ => rfl
  · exact der_v (ex_isi .bool g gm g2 gm2 d) rfl fun _ => rfl
  · exact der_v (ex_isi .str g gm g2 gm2 d) rfl fun _ => rfl
  · exact der_v (ex_isi .list g gm g2 gm2 d) rfl fun _ => rfl
theorem cCall_ok (h : XOk ce fa ca k Φ Wx X) {f : Expr → Option Tm} (ih : DerF X fa ca Φ Wx f) {x : Str} {es : List Expr} {t : Tm} {p pos : Pos} (e : cCall ce f x es = some t) : Der X fa ca Wx (.Call (.Name x p) es [] pos) (ev Φ t) := by
  unfold cCall at e
  split at e
  · rename_i i el
    split at e
    · rename_i hg
      obtain ⟨g1, g2⟩ := glB_ok h hg
      obtain ⟨ts, h1, h2⟩ := Option.map_eq_some_iff.mp e
      subst h2
      exact der_v (ex_call (h.fns _ _ el) h.room h.tk g1 g2 (cL_ok ih h1)) rfl fun _ => rfl
    · cases e
  · cases e
  · split at e
    · rename_i hx
      split at e
      · split at e
        · rename_i h1 h2
          cases e
          exact bi_ok h h1 hx (ih _ _ h2)
        · cases e
      · split at e
        · rename_i hi
          subst hi
          split at e
          · rename_i h1 h2
            split at e
            · rename_i hT
              cases e
              exact isi_ok h h1 hx hT (ih _ _ h2)
            · cases e
          · cases e
        · cases e
      · cases e
    · cases e
theorem cSub_ok {f : Expr → Option Tm} (ih : DerF X fa ca Φ Wx f) {a i : Expr} {t : Tm} {pos : Pos} (e : cSub f a i = some t) : Der X fa ca Wx (.Subscript a i pos) (ev Φ t) := by
  unfold cSub at e
  split at e
  · split at e
    · rename_i h1 h2 h3
      cases e
      exact der_v (ex_sl (ih _ _ h1).v (cTo_ok ih h2) (cTo_ok ih h3)) rfl fun _ => rfl
    · cases e
  · split at e
    · rename_i hr
      obtain ⟨s, h1, h2⟩ := Option.map_eq_some_iff.mp e
      subst h2
      unfold isRev at hr
      split at hr
      · exact der_v (ex_rev (ih _ _ h1).v) rfl fun _ => rfl
      · cases hr
    · split at e
      · rename_i hp
        split at e
        · rename_i h1 h2
          cases e
          exact der_v (ex_ix (ih _ _ h1).v (ih _ _ h2).v (plain_ix hp)) rfl fun _ => rfl
        · cases e
      · cases e
theorem cIt_ok (h : XOk ce fa ca k Φ Wx X) {f : Expr → Option Tm} (ih : DerF X fa ca Φ Wx f) {tg e : Expr} {t : Tit} (hc : cIt ce f tg e = some t) : PI X tg e (rdI (cx X fa ca Wx) (evi Φ t)) := by
  have seq : ∀ {e : Expr} {t : Tit}, (f e).map Tit.seq = some t → PI X tg e (rdI (cx X fa ca Wx) (evi Φ t)) := fun {e t} hc => by
    obtain ⟨s, h1, h2⟩ := Option.map_eq_some_iff.mp hc
    subst h2
    exact it_seq (ih _ _ h1).v
  unfold cIt at hc
  split at hc
  · rename_i x p es pos
    split at hc
    · rename_i a hk
      have hx : x = ("range" : Str) := by
        unfold itK at hk
        simp only at hk
        split at hk
        · assumption
        · split at hk <;> cases hk
      subst hx
      split at hc
      · rename_i hb
        obtain ⟨s, h1, h2⟩ := Option.map_eq_some_iff.mp hc
        subst h2
        obtain ⟨g, gd, gm⟩ := bltB_ok h hb
        exact it_rng g gm (ih _ _ h1)
      · cases hc
    · rename_i a hk
      have hx : x = ("enumerate" : Str) ∧ isTup tg = true := by
        unfold itK at hk
        simp only at hk
        split at hk
        · cases hk
        · split at hk
          · assumption
          · cases hk
      obtain ⟨rfl, ht⟩ := hx
      split at hc
      · rename_i hb
        obtain ⟨s, h1, h2⟩ := Option.map_eq_some_iff.mp hc
        subst h2
        obtain ⟨g, gd, gm⟩ := bltB_ok h hb
        unfold isTup at ht
        split at ht
        · exact it_enum g gm (ih _ _ h1)
        · cases ht
      · cases hc
    · rename_i a b hk
      have hx : x = ("range" : Str) := by
        unfold itK at hk
        simp only at hk
        split at hk
        · assumption
        · split at hk <;> cases hk
      subst hx
      split at hc
      · rename_i hb
        split at hc
        · rename_i h1 h2
          cases hc
          obtain ⟨g, gd, gm⟩ := bltB_ok h hb
          exact it_rng2 g gm (ih _ _ h1) (ih _ _ h2)
        · cases hc
      · cases hc
    · rename_i a b hk
      have hx : x = ("zip" : Str) ∧ isTup tg = true := by
        unfold itK at hk
        simp only at hk
        split at hk
        · cases hk
        · split at hk
          · assumption
          · cases hk
      obtain ⟨rfl, ht⟩ := hx
      split at hc
      · rename_i hb
        split at hc
        · rename_i h1 h2
          cases hc
          obtain ⟨g, gd, gm⟩ := bltB_ok h hb
          unfold isTup at ht
          split at ht
          · exact it_zip g gm (ih _ _ h1) (ih _ _ h2)
          · cases ht
        · cases hc
      · cases hc
    · exact seq hc
    · cases hc
  · exact seq hc
theorem cIfs_ok {f : Expr → Option Tm} (ih : DerF X fa ca Φ Wx f) {es : List Expr} {t : To} (h : cIfs f es = some t) : PTs X es (rdT (cx X fa ca Wx) (etc Φ t)) := by
  unfold cIfs at h
  split at h
  · cases h
    exact PTs.mono pts_nil fun σ H Q ⟨W, ρ, rs, h⟩ => h W H (FxE.refl rs)
  · obtain ⟨s, h1, h2⟩ := Option.map_eq_some_iff.mp h
    subst h2
    exact pts_one (ih _ _ h1).t
  · cases h
theorem pt_ife {c a b : Expr} {pos : Pos} {tA ta tb : TT} (hc : PT X c tA) (ha : PT X a ta) (hb : PT X b tb) : PT X (.IfExp c a b pos) (fun σ H Q => tA σ H fun d H1 => if d = true then ta σ H1 Q else tb σ H1 Q) := by
  refine ⟨fun pins s σ H Q I h => ?_⟩
  show wpAny (model X.prog X.w) X.A (isTrue c X.env (eval c X.env) >>= fun d => if d = true then isTrue a X.env (eval a X.env) else isTrue b X.env (eval b X.env)) _ _ _
  refine wpAny_bind (thn (hc.run pins s σ H _ I h) fun d s1 ⟨H1, I1, q1⟩ => ?_)
  cases d with
  | true => exact ha.run pins s1 σ H1 Q I1 q1
  | false => exact hb.run pins s1 σ H1 Q I1 q1
theorem der_ife {c a b : Expr} {pos : Pos} {p q r : Pr} (hc : Der X fa ca Wx c p) (ha : Der X fa ca Wx a q) (hb : Der X fa ca Wx b r) : Der X fa ca Wx (.IfExp c a b pos) (ofV fun ρ => (p.t ρ).bind fun c ρ1 => if c then q.v ρ1 else r.v ρ1) := by
  refine ⟨ex_ife hc.t ha.v hb.v, PT.mono (pt_ife hc.t ha.t hb.t) fun σ H Q ⟨W, ρ, rs, h⟩ => ?_, fun _ => rfl, rfl⟩
  have h : OcG (cx X fa ca Wx) W ρ σ H (fun b _ _ H' => Q b H') (((p.t ρ).bind fun c ρ1 => if c then q.v ρ1 else r.v ρ1).bind truR) := h
  rw [bind_assoc] at h
  refine rdT_thenG rs h fun W1 ρ1 H1 b f1 h1 => ?_
  cases b with
  | true =>
    rw [if_pos rfl] at h1 ⊢
    exact OcG.rdT f1.rs (by rw [ha.co]; exact h1)
  | false =>
    rw [if_neg Bool.false_ne_true] at h1 ⊢
    exact OcG.rdT f1.rs (by rw [hb.co]; exact h1)
theorem der_not {a : Expr} {pos : Pos} {p : Pr} (d : Der X fa ca Wx a p) : Der X fa ca Wx (.UnaryOp .Not a pos) (ofT fun ρ => (p.t ρ).bind fun b ρ1 => .ok (!b) ρ1) := by
  refine ⟨?_, et_not d.t, fun ρ => ?_, rfl⟩
  · have e : (fun ρ => ((p.v ρ).bind truR).bind fun b ρ1 => (R.ok (shP (.bool (!b))) ρ1 : R RV)) = fun ρ => ((p.t ρ).bind fun b ρ1 => (R.ok (!b) ρ1 : R Bool)).bind fun b ρ1 => .ok (shP (.bool b)) ρ1 := by
      funext ρ
      rw [d.co ρ]
      cases (p.v ρ).bind truR <;> rfl
    have := ex_not (X := X) (fa := fa) (ca := ca) (Wx := Wx) (pos := pos) d.v
    rw [e] at this
    exact this
  · show (p.t ρ).bind (fun b ρ1 => (R.ok (!b) ρ1 : R Bool)) = (((p.t ρ).bind fun b ρ1 => (R.ok (!b) ρ1 : R Bool)).bind fun b ρ1 => .ok (shP (.bool b)) ρ1).bind truR
    cases p.t ρ <;> rfl
end
theorem cE_ok {fa ca : FA} {k : Nat} {Φ : Fs} : ∀ (n : Nat) (ce : CE) (X : Cx) (Wx : WX), XOk ce fa ca k Φ Wx X → DerF X fa ca Φ Wx (cE ce n)
  | 0, _, _, _, _ => fun e t h => by unfold cE at h; cases h
  | n + 1, ce, X, Wx, h => fun e t hc => by
    have ih : DerF X fa ca Φ Wx (cE ce n) := cE_ok n ce X Wx h
    unfold cE at hc
    split at hc
    · exact cName_ok h hc
    · exact cConst_ok hc
    · split at hc
      · rename_i h1 h2 h3
        cases hc
        rw [cBin_ok h1]
        exact der_v (ex_bin _ (ih _ _ h2).v (ih _ _ h3).v) rfl fun _ => rfl
      · cases hc
    · obtain ⟨s, h1, h2⟩ := Option.map_eq_some_iff.mp hc
      subst h2
      exact der_v (ex_neg (ih _ _ h1).v) rfl fun _ => rfl
    · obtain ⟨s, h1, h2⟩ := Option.map_eq_some_iff.mp hc
      subst h2
      exact der_not (ih _ _ h1)
    · rename_i op e0 es _
      obtain ⟨s, h1, h2⟩ := Option.map_eq_some_iff.mp hc
      subst h2
      have hp := cL_ok ih h1
      cases op with
      | And => exact der_bop false (by simp) hp
      | Or => exact der_bop true (by simp) hp
    · split at hc
      · rename_i h1 h2 h3
        cases hc
        rw [cCmp_ok h1]
        have d := ih _ _ h3
        exact ⟨ex_cmp h.un _ (ih _ _ h2).v d.v (plain_mark d.sy _), et_cmp h.un _ (ih _ _ h2).v d.v (plain_mark d.sy _), fun _ => rfl, rfl⟩
      · cases hc
    · split at hc
      · rename_i h1 h2 h3 h4 h5
        cases hc
        rw [cCmp_ok h1, cCmp_ok h2]
        have d := ih _ _ h5
        exact ⟨ex_chain h.un _ _ (ih _ _ h3).v (ih _ _ h4).v d.v d.sy, et_chain h.un _ _ (ih _ _ h3).v (ih _ _ h4).v d.v d.sy, fun _ => rfl, rfl⟩
      · cases hc
    · split at hc
      · rename_i h1 h2 h3
        cases hc
        exact der_ife (ih _ _ h1) (ih _ _ h2) (ih _ _ h3)
      · cases hc
    · obtain ⟨s, h1, h2⟩ := Option.map_eq_some_iff.mp hc
      subst h2
      exact der_v (ex_tup (cL_ok ih h1)) rfl fun _ => rfl
    · obtain ⟨s, h1, h2⟩ := Option.map_eq_some_iff.mp hc
      subst h2
      exact der_v (ex_lst (cL_ok ih h1)) rfl fun _ => rfl
    · exact cSub_ok ih hc
    · exact cCall_ok h ih hc
    · split at hc
      · rename_i hb
        split at hc
        · rename_i h1 h2 h3 h4
          split at hc
          · rename_i hx
            cases hc
            rw [Bool.and_eq_true, List.all_eq_true] at hx
            obtain ⟨hp, hx⟩ := hx
            refine der_v (ex_comp h.calm h.nd (cIt_ok h ih h1) (blkOk_by (by rw [h.N, h.sc]; exact hb)) (fun i hi => by have := hx i hi; simpa using this) hp
              (fun s H C cl fp => cTg_ok (h.blk s H _ C cl fp) h2 WF) (fun s H C cl fp => cIfs_ok (cE_ok n _ _ _ (h.blk s H _ C cl fp)) h3) (fun s H C cl fp => (cE_ok n _ _ _ (h.blk s H _ C cl fp) _ _ h4).v)) rfl fun _ => rfl
          · cases hc
        · cases hc
      · cases hc
    · cases hc
end Mp

set_option maxRecDepth 100000
set_option maxHeartbeats 4000000
/-! Mp19: the text's statements mean what the evaluator says. -/
namespace Mp
open PySem PySem.Spec PyProof.Rows L2

def isFn (sc : Scope) : Bool := match sc.kind with | .function => true | _ => false
theorem isFn_ok {sc : Scope} (h : isFn sc = true) : sc.kind = .function := by
  unfold isFn at h
  split at h
  · assumption
  · cases h
def isLoc (sc : Scope) (x : Str) : Bool := match sc.names.lookup x with | some .local => true | _ => false
theorem isLoc_ok {sc : Scope} {x : Str} (h : isLoc sc x = true) : sc.names.lookup x = some .local := by
  unfold isLoc at h
  split at h
  · assumption
  · cases h
/-- does the store of a comprehension come ahead of its names' ends -/
def swB (sc : Scope) (x : Str) (px : Pos) : Expr → Bool
  | .ListComp _ _ s pos => isLoc sc x && (px.line == pos.line) && !(s.names.any fun (n, k) => n == x && (k == .local || k == .cell))
  | _ => false
theorem sw_by {env : PySem.Env} {x : Str} {px : Pos} {e : Expr} {l : Nat} (hk : env.scope.kind = .function) (h : swB env.scope x px e = false) (hs : notComp e = true ∨ ∃ a b c d, e = .ListComp a b c d) : swapsWith e (some (.Name x px)) l env = pure false := by
  rcases hs with hs | ⟨a, b, c, d, rfl⟩
  · exact sw_no hs _ _ _
  · have hb : (env.blockKind == ScopeKind.function) = true := by unfold Env.blockKind; rw [hk]; rfl
    have ek : (env.kindOf x == some NameKind.local) = isLoc env.scope x := by
      unfold isLoc
      show (env.scope.names.lookup x == some NameKind.local) = _
      cases env.scope.names.lookup x with
      | none => rfl
      | some k => cases k <;> rfl
    show (pure (env.blockKind == ScopeKind.function && env.kindOf x == some NameKind.local && px.line == d.line && !(c.names.any fun (n, k) => n == x && (k == .local || k == .cell))) : Sem Bool) = pure false
    rw [hb, ek, Bool.true_and]
    exact congrArg pure h
/-- which way a, b = e, e' is stored -/
def parNames (sc : Scope) (ts : List Expr) : List Str := ts.filterMap fun
    | .Name id pos => if isLoc sc id && pos.line == (ts.head?.map (·.pos.line)).getD 0 then some id else none
    | _ => none
def parM (sc : Scope) (ts vs : List Expr) : Option (Option (List Str)) :=
  if isFn sc then
  (if !(ts.length == 2 || ts.length == 3) || vs.length != ts.length then some none
  else if vs.all plainE then
    (if (parNames sc ts).length != ts.length || (parNames sc ts).eraseDups.length != (parNames sc ts).length then some none
    else if vs.all (foldedForSure 8) then some none
    else if vs.all (constantsAlone 8) then none
    else some (some (parNames sc ts))) else none) else none
theorem parM_ok {env : PySem.Env} {ts vs : List Expr} {o : Option (List Str)} (h : parM env.scope ts vs = some o) (k : Nat) (p : Pos) (k2 : Nat) (p2 : Pos) : swappedStores [.Tuple ts k p] (.Tuple vs k2 p2) env = pure o := by
  unfold parM at h
  split at h
  · rename_i hf
    have hb : (env.blockKind != ScopeKind.function) = false := by unfold Env.blockKind; rw [isFn_ok hf]; rfl
    have hst : ∀ f : Expr → Bool, (∀ e, plainE e = true → f e = false) → vs.all plainE = true → ¬ (vs.any f = true) := fun f hf hp z => by
      obtain ⟨e, he, z⟩ := List.any_eq_true.mp z
      rw [hf e (List.all_eq_true.mp hp e he)] at z
      cases z
    unfold swappedStores
    simp only [hb, Bool.or_false]
    split at h
    · rename_i h1
      cases h
      rw [if_pos h1]
    · rename_i h1
      rw [if_neg h1]
      split at h
      · rename_i hp
        refine Eq.trans (if_neg (hst _ (fun e he => by cases e <;> first | rfl | cases he) hp)) ?_
        generalize hgen : List.filterMap _ ts = nm
        have hn : parNames env.scope ts = nm := by
          rw [← hgen]
          unfold parNames
          congr 1
          funext e
          cases e <;> first
            | rfl
            | (rename_i id pos
               have ek : (env.kindOf id == some NameKind.local) = isLoc env.scope id := by
                 unfold isLoc
                 show (env.scope.names.lookup id == some NameKind.local) = _
                 cases env.scope.names.lookup id with
                 | none => rfl
                 | some k => cases k <;> rfl
               simp only [ek])
        rw [hn] at h
        split at h
        · rename_i h2
          cases h
          rw [if_pos h2]
        · rename_i h2
          rw [if_neg h2]
          split at h
          · rename_i h3
            cases h
            rw [if_pos h3]
          · rename_i h3
            rw [if_neg h3]
            split at h
            · cases h
            · rename_i h4
              cases h
              rw [if_neg h4]
      · cases h
  · cases h

def isConst : Expr → Bool
  | .Constant .. => true
  | _ => false
def isStrC : Expr → Bool
  | .Constant (.str _) _ _ => true
  | _ => false
/-- the fuel of a loop -/
def fuel : Nat := 18446744073709551616
def cAsg (ce : CE) (f : Expr → Option Tm) (tg : Expr) (e : Expr) : Option Ts := match tg with
  | .Name x px => (match stB ce x, f e with
    | some i, some t => if isFn ce.sc && !(swB ce.sc x px e) then some (.set i x t) else none
    | _, _ => none)
  | .Tuple ts _ _ => (match e with
    | .Tuple vs _ _ => (match cNms ce ts, cL f vs, parM ce.sc ts vs with
      | some nt, some tv, some none => if nt.length ≤ 100 then some (.setP nt tv) else none
      | some [(i, x), (j, y)], some tv, some (some [x', y']) => if x' = x ∧ y' = y ∧ i ≠ j ∧ isLoc ce.sc x = true ∧ isLoc ce.sc y = true ∧ vs.length = 2 then some (.setP [(i, x), (j, y)] tv) else none
      | some [(i, x), (j, y), (l, z)], some tv, some (some [x', y', z']) => if x' = x ∧ y' = y ∧ z' = z ∧ i ≠ j ∧ i ≠ l ∧ j ≠ l ∧ isLoc ce.sc x = true ∧ isLoc ce.sc y = true ∧ isLoc ce.sc z = true ∧ vs.length = 3 then some (.setP [(i, x), (j, y), (l, z)] tv) else none
      | _, _, _ => none)
    | e => (match cNms ce ts, f e with
      | some nt, some t => some (.setT (.tp nt) t)
      | _, _ => none))
  | .Subscript (.Name x _) k _ => (match slB ce x, f k, f e with
    | some i, some tk, some te => some (.setIx i x tk te)
    | _, _, _ => none)
  | _ => none
/-- name = [..] on one line -/
def cAsgLc (ce : CE) (f : Expr → Option Tm) (tg : Expr) (e : Expr) : Option Ts := match tg with
  | .Name x px => (match stB ce x, f e with
    | some i, some t => if isFn ce.sc && swB ce.sc x px e then some (.set i x t) else none
    | _, _ => none)
  | _ => none
def cExpr (ce : CE) (f : Expr → Option Tm) (e : Expr) : Option Ts := match e with
  | .Call (.Attribute (.Name x p) a tpos) es [] cpos =>
    if a = ("append" : Str) then (match slB ce x, es with
      | some i, [e] => (match f e with
        | some t => if (tpos.endLine == cpos.line) = true then some (.app i x t) else none
        | _ => none)
      | _, _ => none) else (f (.Call (.Attribute (.Name x p) a tpos) es [] cpos)).map .expr
  | e => if isStrC e then some .pass else if notComp e then (f e).map .expr else none
def cRaise (ce : CE) (e : Expr) : Option Ts := match e with
  | .Call (.Name x _) [.Constant (.str _) _ _] [] _ => (match ce.g.lookup x with
    | some (.exc c) => if glB ce.sc x then some (.raise c) else none
    | _ => none)
  | _ => none
def frzs : List Nat → Tss → Tss
  | [], ts => ts
  | i :: r, ts => .frz i (frzs r ts)
def cB (fz : List (Nat × Nat)) (f : Stmt → Option Ts) : List Stmt → Option Tss
  | [] => some .nil
  | s :: r => match f s, cB fz f r with
    | some t, some ts => some (frzs ((fz.filter fun p => p.1 == s.pos.line).map (·.2)) (.cons t ts))
    | _, _ => none
def cS (ce : CE) (fz : List (Nat × Nat)) (nE : Nat) : Nat → Stmt → Option Ts
  | 0, _ => none
  | n + 1, s => match s with
    | .Assign [tg] e _ => (match cAsg ce (cE ce nE) tg e with
      | some t => some t
      | none => cAsgLc ce (cE ce nE) tg e)
    | .AugAssign (.Name x _) .Add e _ => (match stB ce x, cE ce nE e with
      | some i, some t => some (.aug i x false t)
      | _, _ => none)
    | .AugAssign (.Name x _) .Sub e _ => (match stB ce x, cE ce nE e with
      | some i, some t => some (.aug i x true t)
      | _, _ => none)
    | .Expr e _ => cExpr ce (cE ce nE) e
    | .Return (some e) _ => (cE ce nE e).map .ret
    | .Return none _ => some (.ret (.cst .none))
    | .If c a b _ => (match cE ce nE c, cB fz (cS ce fz nE n) a, cB fz (cS ce fz nE n) b with
      | some t, some ta, some tb => some (.ife t ta tb)
      | _, _, _ => none)
    | .For tg it b [] _ => (match cTg ce tg, cIt ce (cE ce nE) tg it, cB fz (cS ce fz nE n) b with
      | some g, some ti, some tb => if plainE it then some (.forS g ti tb) else none
      | _, _, _ => none)
    | .While c b [] _ => (match cE ce nE c, cB fz (cS ce fz nE n) b with
      | some t, some tb => some (.whl fuel t tb)
      | _, _ => none)
    | .Raise (some e) none _ => cRaise ce e
    | .Pass _ => some .pass
    | .Break _ => some .brk
    | .Continue _ => some .cont
    | _ => none

section
variable {ce : CE} {fa ca : FA} {k : Nat} {Φ : Fs} {Wx : WX} {X : Cx}
theorem lc_or {ce : CE} {n : Nat} {e : Expr} {t : Tm} (h : cE ce n e = some t) : notComp e = true ∨ ∃ a b c d, e = .ListComp a b c d := by
  cases e <;> first
    | exact .inl rfl
    | exact .inr ⟨_, _, _, _, rfl⟩
    | (cases n <;> (unfold cE at h; cases h))
/-- a comprehension's parts -/
theorem cE_lc {n : Nat} {ce : CE} {X : Cx} {Wx : WX} (h : XOk ce fa ca k Φ Wx X) {elt : Expr} {gs : List Comprehension} {scope : Scope} {pos : Pos} {t : Tm} (hc : cE ce n (.ListComp elt gs scope pos) = some t) {i : Nat} {x : Str} {px spos : Pos} (hi : X.N[i]? = some x) (hsw : swB ce.sc x px (.ListComp elt gs scope pos) = true) (hf : isFn ce.sc = true) :
    PS X (.Assign [.Name x px] (.ListComp elt gs scope pos) spos) (rdS (cx X fa ca Wx) fun ρ => sOf ((ev Φ t).v ρ) fun r ρ1 => nxO (putR i r ρ1)) := by
  cases n with
  | zero => unfold cE at hc; cases hc
  | succ n =>
    unfold cE at hc
    split at hc
    all_goals try (rename_i e; cases e; done)
    all_goals try (cases hc; done)
    all_goals try (rename_i e; cases e)
    · split at hc
      · rename_i hb
        split at hc
        · rename_i h1 h2 h3 h4
          split at hc
          · rename_i hx
            cases hc
            rw [Bool.and_eq_true, List.all_eq_true] at hx
            obtain ⟨hp, hx⟩ := hx
            unfold swB at hsw
            simp only [Bool.and_eq_true, Bool.not_eq_true'] at hsw
            obtain ⟨⟨w1, w2⟩, w3⟩ := hsw
            have ih := cE_ok n ce X Wx h
            have hg := fun (s : Shared) (H : Hp) (C : Addr) (cl : List (Str × Addr)) (fp : List Addr) => (show PG (X.blk s H scope (compEnvC scope cl C X.env) fp) _ (gTg (cx X fa ca WF) _) from cTg_ok (h.blk s H scope C cl fp) h2 WF)
            have ht := fun (s : Shared) (H : Hp) (C : Addr) (cl : List (Str × Addr)) (fp : List Addr) => (show PTs (X.blk s H scope (compEnvC scope cl C X.env) fp) _ (rdT (cx X fa ca WF) _) from cIfs_ok (cE_ok n _ _ _ (h.blk s H scope C cl fp)) h3)
            have he := fun (s : Shared) (H : Hp) (C : Addr) (cl : List (Str × Addr)) (fp : List Addr) => (show PE (X.blk s H scope (compEnvC scope cl C X.env) fp) _ (rd (cx X fa ca WF) _) from (cE_ok n _ _ _ (h.blk s H scope C cl fp) _ _ h4).v)
            refine PS.mono (ps_setLc h.calm h.nd hi (by rw [h.sc]; exact isLoc_ok w1) (sw_true (by rw [h.sc]; exact isFn_ok hf) (by rw [h.sc]; exact isLoc_ok w1) w2 w3) (cIt_ok h ih h1) (blkOk_by (by rw [h.N, h.sc]; exact hb)) hg ht he (plain_fold hp _)) fun D σ H q => ?_
            exact comp_read (K := X.K) (C := cx X fa ca Wx) (CF := cx X fa ca WF) ⟨rfl, rfl, rfl, rfl⟩ (fun i hi => by have := hx i hi; simpa using this) σ H _ (set_read q)
          · cases hc
        · cases hc
      · cases hc
end
end Mp

set_option maxRecDepth 100000
set_option maxHeartbeats 4000000
/-! Mp20: statements, blocks. -/
namespace Mp
open PySem PySem.Spec PyProof.Rows L2

section
variable {ce : CE} {fa ca : FA} {k : Nat} {Φ : Fs} {Wx : WX} {X : Cx}
theorem paired_len {α β : Type} {R : α → β → Prop} {xs : List α} {ys : List β} (h : Paired R xs ys) : xs.length = ys.length := by
  induction h with
  | nil => rfl
  | cons _ _ ih => simp [ih]
theorem cNms_names {ce : CE} : ∀ {es : List Expr} {ts : List (Nat × Str)}, cNms ce es = some ts → es = (ts.zip (es.map Expr.pos)).map (fun y => Expr.Name y.1.2 y.2) ∧ es.length = ts.length
  | [], _, e => by cases e; exact ⟨rfl, rfl⟩
  | e0 :: es, ts, e => by
    cases e0 <;> first
      | (unfold cNms at e
         split at e
         · rename_i h1 h2
           cases e
           obtain ⟨h3, h4⟩ := cNms_names h2
           exact ⟨congrArg (List.cons _) h3, congrArg Nat.succ h4⟩
         · cases e)
      | (unfold cNms at e; cases e)
theorem cAsg_ok {n : Nat} (h : XOk ce fa ca k Φ Wx X) {tg e : Expr} {t : Ts} {pos : Pos} (hc : cAsg ce (cE ce n) tg e = some t) : PS X (.Assign [tg] e pos) (rdS (cx X fa ca Wx) (sv Φ t)) := by
  have ih := cE_ok n ce X Wx h
  unfold cAsg at hc
  split at hc
  · split at hc
    · rename_i h1 h2
      split at hc
      · rename_i hw
        cases hc
        rw [Bool.and_eq_true, Bool.not_eq_true'] at hw
        exact st_set h.nd (stB_ok h h1) (ih _ _ h2).v (sw_by (by rw [h.sc]; exact isFn_ok hw.1) (by rw [h.sc]; exact hw.2) (lc_or h2))
      · cases hc
    · cases hc
  · split at hc
    · rename_i tsE _ _ _ vs _ _
      split at hc
      · rename_i h1 h2 h3
        split at hc
        · rename_i hz
          cases hc
          exact st_parT h.calm h.nd (cNms_ok h h1) (cL_ok ih h2) hz (parM_ok (by rw [h.sc]; exact h3) _ _ _ _)
        · cases hc
      · rename_i i x j y tv x' y' h1 h2 h3
        split at hc
        · rename_i hz
          cases hc
          obtain ⟨rfl, rfl, hij, hx, hy, hl⟩ := hz
          obtain ⟨e1, e2⟩ := cNms_names h1
          match tsE, e2 with
          | [q1, q2], _ =>
            have e1 : [q1, q2] = [Expr.Name x' q1.pos, Expr.Name y' q2.pos] := e1
            rw [e1] at h1 h3 ⊢
            match vs, hl with
            | [a, b], _ =>
              have hn := cNms_ok h h1
              cases hn with
              | cons n1 hn =>
                cases hn with
                | cons n2 hn =>
                  exact st_par2 h.calm h.nd n1 n2 hij (by rw [h.sc]; exact isLoc_ok hx) (by rw [h.sc]; exact isLoc_ok hy) (cL_ok ih h2) (parM_ok (by rw [h.sc]; exact h3))
        · cases hc
      · rename_i i x j y l z tv x' y' z' h1 h2 h3
        split at hc
        · rename_i hq
          cases hc
          obtain ⟨rfl, rfl, rfl, hij, hil, hjl, hx, hy, hz, hl⟩ := hq
          obtain ⟨e1, e2⟩ := cNms_names h1
          match tsE, e2 with
          | [q1, q2, q3], _ =>
            have e1 : [q1, q2, q3] = [Expr.Name x' q1.pos, Expr.Name y' q2.pos, Expr.Name z' q3.pos] := e1
            rw [e1] at h1 h3 ⊢
            match vs, hl with
            | [a, b, c], _ =>
              have hn := cNms_ok h h1
              cases hn with
              | cons n1 hn =>
                cases hn with
                | cons n2 hn =>
                  cases hn with
                  | cons n3 hn =>
                    exact st_par3 h.calm h.nd n1 n2 n3 hij hil hjl (by rw [h.sc]; exact isLoc_ok hx) (by rw [h.sc]; exact isLoc_ok hy) (by rw [h.sc]; exact isLoc_ok hz) (cL_ok ih h2) (parM_ok (by rw [h.sc]; exact h3))
        · cases hc
      · cases hc
    · rename_i hnt
      split at hc
      · rename_i h1 h2
        cases hc
        refine st_setT h.calm h.nd (cNms_ok h h1) (ih _ _ h2).v ?_
        cases e <;> first | rfl | exact absurd rfl (hnt _ _ _)
      · cases hc
  · split at hc
    · rename_i h1 h2 h3
      cases hc
      obtain ⟨a1, a2, a3, a4⟩ := slB_ok h h1
      exact st_setIx (pe_var a1 a2 a3 a4) (ih _ _ h2).v (ih _ _ h3).v (ih _ _ h2).sy
    · cases hc
  · cases hc
theorem cAsgLc_ok {n : Nat} (h : XOk ce fa ca k Φ Wx X) {tg e : Expr} {t : Ts} {pos : Pos} (hc : cAsgLc ce (cE ce n) tg e = some t) : PS X (.Assign [tg] e pos) (rdS (cx X fa ca Wx) (sv Φ t)) := by
  unfold cAsgLc at hc
  split at hc
  · split at hc
    · rename_i h1 h2
      split at hc
      · rename_i hw
        cases hc
        rw [Bool.and_eq_true] at hw
        rcases lc_or h2 with hn | ⟨a, b, c, d, rfl⟩
        · exfalso
          have := hw.2
          cases e <;> first | (unfold swB at this; cases this) | cases hn
        · exact cE_lc h h2 (stB_ok h h1).hi hw.2 hw.1
      · cases hc
    · cases hc
  · cases hc
theorem cExpr_ok {n : Nat} (h : XOk ce fa ca k Φ Wx X) {e : Expr} {t : Ts} {pos : Pos} (hc : cExpr ce (cE ce n) e = some t) : PS X (.Expr e pos) (rdS (cx X fa ca Wx) (sv Φ t)) := by
  have ih := cE_ok n ce X Wx h
  have ex : ∀ {e : Expr}, notComp e = true → (cE ce n e).map Ts.expr = some t → PS X (.Expr e pos) (rdS (cx X fa ca Wx) (sv Φ t)) := fun {e} hn hc => by
    obtain ⟨s, h1, h2⟩ := Option.map_eq_some_iff.mp hc
    subst h2
    exact st_expr (ih _ _ h1).v hn
  unfold cExpr at hc
  split at hc
  · split at hc
    · rename_i ha
      subst ha
      split at hc
      · rename_i h1
        split at hc
        · rename_i h2
          split at hc
          · rename_i hl
            cases hc
            obtain ⟨a1, a2, a3, a4⟩ := slB_ok h h1
            exact st_app (pe_var a1 a2 a3 a4) (ih _ _ h2) hl
          · cases hc
        · cases hc
      · cases hc
    · exact ex rfl hc
  · split at hc
    · rename_i hs
      cases hc
      unfold isStrC at hs
      split at hs
      · exact PS.mono ps_doc fun D σ H ⟨W, ρ, rs, q⟩ => q _ _ _ (Fx.refl rs)
      · cases hs
    · split at hc
      · rename_i hn
        exact ex hn hc
      · cases hc
theorem cRaise_ok (h : XOk ce fa ca k Φ Wx X) {e : Expr} {t : Ts} {pos : Pos} (hc : cRaise ce e = some t) : PS X (.Raise (some e) none pos) (rdS (cx X fa ca Wx) (sv Φ t)) := by
  unfold cRaise at hc
  split at hc
  · split at hc
    · rename_i el
      split at hc
      · rename_i hg
        cases hc
        obtain ⟨g1, g2⟩ := glB_ok h hg
        have he := h.exc _ _ el
        obtain ⟨bmB, B, newId, initId, F, q⟩ := he.F
        exact st_raise h.calm h.tk F q he.mg he.kp he.r g1 g2
      · cases hc
    · cases hc
  · cases hc
theorem frzs_ok {ss : List Stmt} : ∀ (is : List Nat) {ts : Tss}, PSs X ss (rdS (cx X fa ca Wx) (svs Φ ts)) → PSs X ss (rdS (cx X fa ca Wx) (svs Φ (frzs is ts)))
  | [], _, h => h
  | i :: is, _, h => ss_frz (frzs_ok is h)
theorem cB_ok {fz : List (Nat × Nat)} {f : Stmt → Option Ts} (ih : ∀ s t, f s = some t → PS X s (rdS (cx X fa ca Wx) (sv Φ t))) : ∀ {ss : List Stmt} {ts : Tss}, cB fz f ss = some ts → PSs X ss (rdS (cx X fa ca Wx) (svs Φ ts))
  | [], _, e => by cases e; exact ss_nil
  | s :: r, ts, e => by
    unfold cB at e
    split at e
    · rename_i t ts' h1 h2
      have hc : PSs X (s :: r) (rdS (cx X fa ca Wx) (svs Φ (.cons t ts'))) := ss_cons (ih _ _ h1) (cB_ok ih h2)
      cases e
      exact frzs_ok _ hc
    · cases e
end
theorem cS_ok {ce : CE} {fa ca : FA} {k : Nat} {Φ : Fs} {Wx : WX} {X : Cx} {fz : List (Nat × Nat)} {nE : Nat} (h : XOk ce fa ca k Φ Wx X) (hp : PassesOwn (model X.prog X.w) X.A X.env X.xe) : ∀ (n : Nat) (s : Stmt) (t : Ts), cS ce fz nE n s = some t → PS X s (rdS (cx X fa ca Wx) (sv Φ t))
  | 0, _, _, e => by unfold cS at e; cases e
  | n + 1, s, t, e => by
    have ihE := cE_ok nE ce X Wx h
    have ihS := cS_ok (fz := fz) (nE := nE) h hp n
    unfold cS at e
    split at e
    · split at e
      · rename_i h1
        cases e
        exact cAsg_ok h h1
      · exact cAsgLc_ok h e
    · split at e
      · rename_i h1 h2
        cases e
        exact st_aug h.nd (stB_ok h h1) false (ihE _ _ h2).v
      · cases e
    · split at e
      · rename_i h1 h2
        cases e
        exact st_aug h.nd (stB_ok h h1) true (ihE _ _ h2).v
      · cases e
    · exact cExpr_ok h e
    · obtain ⟨s, h1, h2⟩ := Option.map_eq_some_iff.mp e
      subst h2
      exact st_ret (ihE _ _ h1).v
    · cases e
      exact st_retN
    · split at e
      · rename_i h1 h2 h3
        cases e
        exact st_ife (ihE _ _ h1).t (cB_ok ihS h2) (cB_ok ihS h3)
      · cases e
    · split at e
      · rename_i h1 h2 h3
        split at e
        · rename_i hpl
          cases e
          exact st_for hp h.calm (cIt_ok h ihE h2) (cTg_ok h h1 Wx) (cB_ok ihS h3) hpl
        · cases e
      · cases e
    · split at e
      · rename_i h1 h2
        cases e
        exact st_whl hp (ihE _ _ h1).t (cB_ok ihS h2)
      · cases e
    · exact cRaise_ok h e
    · cases e
      exact PS.mono ps_pass fun D σ H ⟨W, ρ, rs, q⟩ => q _ _ _ (Fx.refl rs)
    · cases e
      exact PS.mono ps_break fun D σ H ⟨W, ρ, rs, q⟩ => q _ _ _ (Fx.refl rs)
    · cases e
      exact PS.mono ps_continue fun D σ H ⟨W, ρ, rs, q⟩ => q _ _ _ (Fx.refl rs)
    · cases e
end Mp

set_option maxRecDepth 100000
set_option maxHeartbeats 4000000
/-! Mp21: defs. -/
namespace Mp
open PySem PySem.Spec PyProof.Rows L2

/-- a def of the text, as it is to be read -/
structure Df where
  x : Str
  params : Arguments
  body : List Stmt
  sc : Scope
  ps : List Str
  N : List Str
  fz : List (Nat × Nat)
def Df.ce (d : Df) (g : List (Str × GV)) (b : List Str) : CE := ⟨d.N, d.sc, fun _ => true, g, b⟩
/-- the text's defs are the table -/
def dfOk (g : List (Str × GV)) (b : List Str) (d : Df) (t : Fd) : Prop :=
  cB d.fz (cS (d.ce g b) d.fz 40 20) d.body = some t.body ∧ t.np = d.ps.length ∧ t.ns = d.N.length ∧ FnScope d.N d.ps d.sc
def DfsOk (g : List (Str × GV)) (b : List Str) (ds : List (Nat × Df)) (T : Nat → Option Fd) : Prop := ∀ p ∈ ds, ∃ t, T p.1 = some t ∧ dfOk g b p.2 t

/-- what the module's heap tells -/
structure ModOk (K : PySem.W.Frag) (mg : Str → Option Value) (fa ca : FA) (g : List (Str × GV)) (b : List Str) (ds : List (Nat × Df)) : Prop where
  fns : ∀ x i, g.lookup x = some (.fn i) → mg x = some (.ref (fa i)) ∧ ∃ d, (i, d) ∈ ds ∧ d.x = x
  fun_ : ∀ i d, (i, d) ∈ ds → ∃ fd, FunD K d.x d.x d.params d.body d.sc [] [] (fa i) fd ∧ Binds K fd d.ps []
  cst : ∀ x c, g.lookup x = some (.cst c) → ∃ u v, mg x = some u ∧ RelV v u ∧ ∀ W H, Rp K W H c v
  exc : ∀ x c, g.lookup x = some (.exc c) → (∃ bmB B newId initId, ExcBaseFacts B newId initId bmB ∧ PySem.W.excIn K (ca c) bmB newId = true) ∧ mg x = some (.ref (ca c)) ∧ PySem.W.keepIn K (.ref (ca c)) = true ∧
    PySem.W.subIn K (.ref (ca c)) (.type "BaseException") = some true ∧ PySem.W.typeIn K (.ref (ca c)) = some (.type "type")
  blt : ∀ x ∈ b, mg x = none

/-! ### the arguments at the start -/
section
variable {K : PySem.W.Frag} {fa ca : FA} {W : Wd} {H : Hp}
theorem ArR.len {as : List Arg} {vs : List V} (h : ArR K fa W H as vs) : as.length = vs.length := by
  induction h with
  | nil => rfl
  | sh _ _ ih => simp [ih]
  | ln _ _ _ ih => simp [ih]
theorem ArR.get {as : List Arg} {vs : List V} (h : ArR K fa W H as vs) : ∀ {i : Nat} {a : Arg}, as[i]? = some a → ∃ v, vs[i]? = some v ∧ match a with
    | .sh x => RpD K fa W H x v
    | .ln x => ∃ p, v = .ref p ∧ RpO K W H x p ∧ W p := by
  induction h with
  | nil => intro i a e; simp at e
  | sh r _ ih =>
    intro i a e
    cases i with
    | zero => simp at e; subst e; exact ⟨_, rfl, r⟩
    | succ i =>
      obtain ⟨v, e1, e2⟩ := ih (i := i) (a := a) (by simpa using e)
      exact ⟨v, by simpa using e1, e2⟩
  | ln r w _ ih =>
    intro i a e
    cases i with
    | zero => simp at e; subst e; exact ⟨_, rfl, _, rfl, r, w⟩
    | succ i =>
      obtain ⟨v, e1, e2⟩ := ih (i := i) (a := a) (by simpa using e)
      exact ⟨v, by simpa using e1, e2⟩
theorem start_get {n : Nat} {as : List Arg} {i : Nat} {s : Sl} (e : (Mp.start n as)[i]? = some s) (h : s ≠ .un) : ∃ a, as[i]? = some a ∧ s = slOf a := by
  unfold Mp.start at e
  by_cases hi : i < as.length
  · rw [List.getElem?_append_left (by simpa using hi), List.getElem?_map] at e
    obtain ⟨a, e1, e2⟩ := Option.map_eq_some_iff.mp e
    exact ⟨a, e1, e2.symm⟩
  · rw [List.getElem?_append_right (by simpa using Nat.le_of_not_lt hi), List.getElem?_replicate] at e
    split at e
    · cases e; exact absurd rfl h
    · cases e
theorem start_rs {N : List Str} {as : List Arg} {vs : List V} (dom : Dom W H) (h : ArR K fa W H as vs) (inj : LentI as vs) (hl : as.length ≤ N.length) : RS K fa W (Mp.start N.length as) (L2.start N vs) H := by
  have hlen := h.len
  have sg : ∀ i, i < vs.length → (L2.start N vs)[i]? = (vs[i]?).map some := fun i hi => by
    unfold L2.start
    rw [List.getElem?_append_left (by simpa using hi), List.getElem?_map]
  have gs : ∀ {i : Nat} {v : V}, vs[i]? = some v → (L2.start N vs)[i]? = some (some v) := fun {i v} e => by
    rw [sg i (List.getElem?_eq_some_iff.mp e).1, e]; rfl
  refine ⟨?_, fun i x e => ?_, fun i l x e => ?_, fun i j l l' x x' a e1 e2 e3 e4 => ?_, dom⟩
  · unfold Mp.start L2.start
    simp only [List.length_append, List.length_map, List.length_replicate]
    omega
  · obtain ⟨a, e1, e2⟩ := start_get e (by simp)
    cases a with
    | sh y => cases e2; obtain ⟨v, h1, h2⟩ := h.get e1; exact ⟨v, gs h1, h2⟩
    | ln y => cases e2
  · obtain ⟨a, e1, e2⟩ := start_get e (by simp)
    cases a with
    | sh y => cases e2
    | ln y =>
      cases e2
      obtain ⟨v, h1, p, rfl, r, w⟩ := h.get e1
      exact ⟨p, gs h1, w, r⟩
  · obtain ⟨a1, f1, g1⟩ := start_get e1 (by simp)
    obtain ⟨a2, f2, g2⟩ := start_get e2 (by simp)
    cases a1 <;> cases g1
    cases a2 <;> cases g2
    obtain ⟨v1, h1, p1, rfl, _, _⟩ := h.get f1
    obtain ⟨v2, h2, p2, rfl, _, _⟩ := h.get f2
    rw [gs h1] at e3
    rw [gs h2] at e4
    cases e3
    cases e4
    exact inj i j _ _ a f1 f2 h1 h2
/-- at the end: what was lent is given back -/
theorem bk_fin {W' : Wd} {ρ' : Env} {σ' : L2.St} {H' : Hp} (rs' : RS K fa W' ρ' σ' H') : ∀ {as : List Arg} {vs : List V} {n : Nat} {bk : List (Option D)}, ArR K fa W H as vs → bkOf ρ' as n = some bk →
    (∀ (i : Nat) (x : D), as[i]? = some (Arg.ln x) → ∃ x', ρ'[n + i]? = some (Sl.own true x')  ∧ ∃ v, vs[i]? = some v ∧ σ'[n + i]? = some (some v)) → BkR K W' H' as vs bk
  | _, _, _, _, .nil, e, _ => by cases e; exact .nil
  | _, _, n, _, .sh r t, e, f => by
    simp only [bkOf, Option.map_eq_some_iff] at e
    obtain ⟨bk, e1, e2⟩ := e
    subst e2
    exact .sh (bk_fin rs' t e1 fun i x hx => by
      obtain ⟨x', h1, v, h2, h3⟩ := f (i + 1) x (by simpa using hx)
      exact ⟨x', by rw [show n + 1 + i = n + (i + 1) by omega]; exact h1, v, by simpa using h2, by rw [show n + 1 + i = n + (i + 1) by omega]; exact h3⟩)
  | _, _, n, _, .ln (x := x) r w t, e, f => by
    unfold bkOf at e
    split at e
    · rename_i y hy
      obtain ⟨bk, e1, e2⟩ := Option.map_eq_some_iff.mp e
      subst e2
      obtain ⟨x', h1, v, h2, h3⟩ := f 0 x rfl
      cases h2
      obtain ⟨a, g1, g2, g3⟩ := rs'.own n true y hy
      have h3 : σ'[n]? = some (some (V.ref _)) := h3
      rw [g1] at h3
      cases h3
      exact .ln g3 g2 (bk_fin rs' t e1 fun i x hx => by
        obtain ⟨x', h1, v, h2, h3⟩ := f (i + 1) x (by simpa using hx)
        exact ⟨x', by rw [show n + 1 + i = n + (i + 1) by omega]; exact h1, v, by simpa using h2, by rw [show n + 1 + i = n + (i + 1) by omega]; exact h3⟩)
    · cases e
theorem fxF_of {N : List Str} {as : List Arg} {vs : List V} {bk : List (Option D)} {W' : Wd} {ρ' : Env} {σ' : L2.St} {H' : Hp} (dom : Dom W H) (h : ArR K fa W H as vs) (inj : LentI as vs) (hl : as.length ≤ N.length)
    (f : Fx K fa W (Mp.start N.length as) (L2.start N vs) H W' ρ' σ' H') (e : bkOf ρ' as 0 = some bk) : FxF K W H as vs bk W' H' := by
  have rs := start_rs (N := N) dom h inj hl
  have gs : ∀ {i : Nat} {v : V}, vs[i]? = some v → (L2.start N vs)[i]? = some (some v) := fun {i v} e => by
    unfold L2.start
    rw [List.getElem?_append_left (by simpa using (List.getElem?_eq_some_iff.mp e).1), List.getElem?_map, e]
    rfl
  have as_get : ∀ {i : Nat} {a : Arg}, as[i]? = some a → (Mp.start N.length as)[i]? = some (slOf a) := fun {i a} e => by
    unfold Mp.start
    rw [List.getElem?_append_left (by simpa using (List.getElem?_eq_some_iff.mp e).1), List.getElem?_map, e]
    rfl
  have lnt : ∀ {i : Nat} {x : D}, as[i]? = some (Arg.ln x) → ∃ x', ρ'[i]? = some (Sl.own true x') ∧ ∃ p, vs[i]? = some (V.ref p) ∧ σ'[i]? = some (some (V.ref p)) := fun {i x} e => by
    obtain ⟨x', e1, e2⟩ := f.ln i x (as_get e)
    obtain ⟨v, h1, p, rfl, _, _⟩ := h.get e
    exact ⟨x', e1, p, h1, by rw [e2]; exact gs h1⟩
  have ow : ∀ a, Ow (Mp.start N.length as) (L2.start N vs) a → LentA as vs a := fun a ⟨i, l, x, e1, e2⟩ => by
    obtain ⟨b, f1, f2⟩ := start_get e1 (by simp)
    cases b <;> cases f2
    obtain ⟨v, h1, p, rfl, _, _⟩ := h.get f1
    rw [gs h1] at e2
    cases e2
    exact ⟨i, _, f1, h1⟩
  refine ⟨bk_fin f.rs h e fun i x hx => ?_, fun a o ea n => f.fr a o ea fun z => n (ow a z), fun a w => ?_, f.wg, f.dm, f.rs.dom⟩
  · obtain ⟨x', e1, p, e2, e3⟩ := lnt hx
    refine ⟨x', by rw [Nat.zero_add]; exact e1, _, e2, by rw [Nat.zero_add]; exact e3⟩
  · rcases f.wk a w with z | z
    · exact z
    · obtain ⟨i, x, e1, e2⟩ := ow a z
      obtain ⟨x', e3, p, e4, e5⟩ := lnt e1
      rw [e2] at e4
      cases e4
      exact f.rs.owW ⟨i, true, x', e3, e5⟩
end

/-! ### every def keeps its promise -/
theorem un_of {k : Nat} {X : Cx} (h : Room k X.A) : Un X := by have := h.un; show X.A.units + 70 < cLine; omega
theorem fn_all {P : Program} {w : World} {K : PySem.W.Frag} {mg : Str → Option Value} {base : Heap} {fa ca : FA} {g : List (Str × GV)} {b : List Str} {ds : List (Nat × Df)} {T : Nat → Option Fd} (M : ModOk K mg fa ca g b ds) (hT : DfsOk g b ds T) :
    ∀ (k i : Nat) (d : Df) (fd : FuncData), (i, d) ∈ ds → FunD K d.x d.x d.params d.body d.sc [] [] (fa i) fd → FnOk P w K mg base (L2.CX P w) k (fa i) fd d.ps (spF K fa ca (runs T k) i)
  | 0, i, d, fd, _, _ => ⟨fun vs H Q E ⟨W, as, _, _, _, h⟩ => h.elim, fun A outer s H args us vs Q E _ _ _ _ ⟨W, as, _, _, _, h⟩ => h.elim⟩
  | k + 1, i, d, fd, hd, F => by
    obtain ⟨t, ht, hb, hnp, hns, S⟩ := hT _ hd
    have ht : T i = some t := ht
    have S : FnScope d.N d.ps d.sc := S
    have key : ∀ {vs : List V} {H : Hp} {Q : VK} {E : XK}, spF K fa ca (runs T (k + 1)) i vs H Q E → ∃ W as, Dom W H ∧ ArR K fa W H as vs ∧ LentI as vs ∧ as.length = d.ps.length ∧ OcF K fa ca W H as vs Q E (fin as (svs (runs T k) t.body (Mp.start d.N.length as))) := fun {vs H Q E} ⟨W, as, h1, h2, h3, h4⟩ => by
      have h4 : OcF K fa ca W H as vs Q E (run1 T (runs T k) i as) := h4
      unfold run1 at h4
      rw [ht] at h4
      simp only at h4
      split at h4
      · rename_i hl
        exact ⟨W, as, h1, h2, h3, hl.trans hnp, by rw [← hns]; exact h4⟩
      · exact h4.elim
    refine F.ok S (fun vs H Q E h => ?_) fun cdv A outer s H vs Q E hr h => ?_
    · obtain ⟨W, as, _, h2, _, hl, _⟩ := key h
      rw [← hl, h2.len]
    · obtain ⟨W, as, dom, har, inj, hl, oc⟩ := key h
      have hx : XOk (d.ce g b) fa ca k (runs T k) (fun c dd _ H => E c dd H) (cxOf (L2.CX P w) P w K mg base d.N d.x d.sc (fa i) cdv A outer s H E) := {
        N := rfl
        sc := rfl
        fn := fun x hx => hx
        nd := S.nd
        calm := rfl
        un := un_of hr
        room := hr
        tk := takes_of rfl rfl rfl rfl
        fns := fun x j e => by
          obtain ⟨e1, d', e2, e3⟩ := M.fns x j e
          obtain ⟨fd', F', B'⟩ := M.fun_ j d' e2
          exact ⟨e1, F'.kp, fd', d'.ps, fn_all M hT k j d' fd' e2 F', B'⟩
        cst := M.cst
        exc := fun x c e => by
          obtain ⟨e1, e2, e3, e4, e5⟩ := M.exc x c e
          exact ⟨e1, e2, e3, raises_own e4 e5⟩
        blt := M.blt }
      refine ⟨_, cB_ok (fun s t e => cS_ok hx (passes_of rfl) 20 s t e) hb, ?_⟩
      have hN : as.length ≤ d.N.length := by
        rw [hl]
        have := congrArg List.length S.pre
        rw [List.length_take] at this
        omega
      have rs := start_rs (N := d.N) dom har inj hN
      refine ⟨W, Mp.start d.N.length as, rs, ?_⟩
      cases ev : svs (runs T k) t.body (Mp.start d.N.length as) with
      | bk ρ' => rw [ev] at oc; exact oc.elim
      | ct ρ' => rw [ev] at oc; exact oc.elim
      | bad => rw [ev] at oc; exact oc.elim
      | nx ρ' =>
        rw [ev] at oc
        intro W' σ' H' f
        cases eb : bkOf ρ' as 0 with
        | none => dsimp only [fin] at oc; rw [eb] at oc; exact oc.elim
        | some bk =>
          dsimp only [fin] at oc
          rw [eb] at oc
          exact oc W' .non H' (fxF_of dom har inj hN f eb) (show RpD K fa W' H' (.d .none) .non from .non)
      | ex e ρ' =>
        rw [ev] at oc
        intro c dd W' σ' H' f q
        cases eb : bkOf ρ' as 0 with
        | none => dsimp only [fin] at oc; rw [eb] at oc; exact oc.elim
        | some bk =>
          dsimp only [fin] at oc
          rw [eb] at oc
          exact oc c dd W' H' (fxF_of dom har inj hN f eb) q
      | rt r ρ' =>
        rw [ev] at oc
        intro W' σ' v H' f q
        dsimp only [fin] at oc
        cases er : retR ρ' r with
        | none => rw [er] at oc; exact oc.elim
        | some p =>
          obtain ⟨x, fr⟩ := p
          cases eb : bkOf ρ' as 0 with
          | none => rw [er, eb] at oc; exact oc.elim
          | some bk =>
            rw [er, eb] at oc
            refine oc W' v H' (fxF_of dom har inj hN f eb) ?_
            cases r with
            | sh y => cases er; exact q
            | fr y =>
              cases er
              obtain ⟨a, ea, w, n, o, r⟩ := q
              refine ⟨a, ea, w, ?_, r⟩
              cases z : H a with
              | none => rfl
              | some u => exact absurd (by show H a ≠ none; rw [z]; exact Option.some_ne_none u) n
            | br j =>
              dsimp only [retR] at er
              split at er
              · rename_i y hy
                cases er
                obtain ⟨ej, _⟩ := q
                obtain ⟨a, e1, w, r⟩ := f.rs.own j false x hy
                rw [ej] at e1
                cases e1
                refine ⟨a, rfl, w, ?_, r⟩
                -- it is none of the lent ones
                rcases f.ow a ⟨j, false, x, hy, ej⟩ with z | z
                · exfalso
                  obtain ⟨i', l, y, g1, g2⟩ := z
                  obtain ⟨b', h1, h2⟩ := start_get g1 (by simp)
                  cases b' <;> cases h2
                  obtain ⟨y', k1, k2⟩ := f.ln i' y g1
                  rw [g2] at k2
                  have := f.rs.inj i' j true false y' x a k1 hy k2 ej
                  subst this
                  rw [k1] at hy
                  cases hy
                · exact z
              · cases er
end Mp

set_option maxRecDepth 100000
set_option maxHeartbeats 4000000
/-! Mp22: what the head tells; the law's end. -/
namespace Mp
open PySem PySem.Spec PyProof.Rows L2

/-! ### constants -/
mutual
def datB (K : PySem.W.Frag) : P → Value → Bool
  | .none, .none => true
  | .bool b, .bool c => b == c
  | .int i, .int j _ => decide (i = j)
  | .str x, .str y _ => decide (x = y) && PyData.strOk x && decide (x.length ≤ 16777216)
  | .tuple ds, .ref a => (match K.lookup a with
    | some ⟨.type c, _, .seq its _, _⟩ => decide (c = "tuple") && decide (its.size ≤ 16777216) && datsB K ds its.toList
    | _ => false)
  | _, _ => false
def datsB (K : PySem.W.Frag) : List P → List Value → Bool
  | [], [] => true
  | d :: ds, u :: us => datB K d u && datsB K ds us
  | _, _ => false
end
mutual
theorem datB_ok {K : PySem.W.Frag} : ∀ {d : P} {u : Value}, datB K d u = true → ∃ v, RelV v u ∧ ∀ W H, Rp K W H d v
  | .none, u, h => by
    cases u <;> first | exact ⟨.non, rfl, fun _ _ => .non⟩ | (unfold datB at h; cases h)
  | .bool b, u, h => by
    cases u <;> first
      | (unfold datB at h
         rename_i c
         have := eq_of_beq h
         subst this
         exact ⟨.bl b, rfl, fun _ _ => .bl b⟩)
      | (unfold datB at h; cases h)
  | .int i, u, h => by
    cases u <;> first
      | (unfold datB at h
         have := of_decide_eq_true h
         subst this
         exact ⟨.int i, ⟨_, rfl⟩, fun _ _ => .int i⟩)
      | (unfold datB at h; cases h)
  | .str x, u, h => by
    cases u <;> first
      | (unfold datB at h
         rw [Bool.and_eq_true, Bool.and_eq_true] at h
         obtain ⟨⟨h1, h2⟩, h3⟩ := h
         have h1 := of_decide_eq_true h1
         subst h1
         exact ⟨.str x, ⟨_, rfl⟩, fun _ _ => .str x h2 (line_le (of_decide_eq_true h3))⟩)
      | (unfold datB at h; cases h)
  | .tuple ds, u, h => by
    cases u with
    | ref a =>
      unfold datB at h
      cases q : K.lookup a with
      | none => rw [q] at h; cases h
      | some o =>
        obtain ⟨oc, od, dt, osl⟩ := o
        rw [q] at h
        cases oc with
        | type c =>
          cases dt with
          | seq its n =>
            have h : (decide (c = "tuple") && decide (its.size ≤ 16777216) && datsB K ds its.toList) = true := h
            rw [Bool.and_eq_true, Bool.and_eq_true] at h
            obtain ⟨⟨h1, h2⟩, h3⟩ := h
            obtain ⟨vs, r, k⟩ := datsB_ok h3
            have hl : vs.length = its.size := by rw [r.length]; simp
            have hz := of_decide_eq_true h2
            refine ⟨.ref a, rfl, fun W H => .tup (.inr ⟨_, its, n, q, congrArg Value.type (of_decide_eq_true h1), rfl, line_le hz, r⟩) (by rw [hl]; exact line_le hz) (k W H)⟩
          | _ => cases h
        | _ => cases dt <;> cases h
    | _ => unfold datB at h; cases h
  | .list ds, u, h => by cases u <;> (unfold datB at h; cases h)
  | .dict ds, u, h => by cases u <;> (unfold datB at h; cases h)
theorem datsB_ok {K : PySem.W.Frag} : ∀ {ds : List P} {us : List Value}, datsB K ds us = true → ∃ vs, Vals vs us ∧ ∀ W H, RpA K W H ds vs
  | [], [], _ => ⟨[], .nil, fun _ _ => .nil⟩
  | [], _ :: _, h => by unfold datsB at h; cases h
  | _ :: _, [], h => by unfold datsB at h; cases h
  | d :: ds, u :: us, h => by
    unfold datsB at h
    rw [Bool.and_eq_true] at h
    obtain ⟨v, r, k⟩ := datB_ok h.1
    obtain ⟨vs, rs, ks⟩ := datsB_ok h.2
    exact ⟨v :: vs, .cons r rs, fun W H => .cons (k W H) (ks W H)⟩
end
/-! ### the text's tables -/
structure Tx where
  ds : List (Nat × Df)
  cs : List (Str × P)
  /-- the error classes -/
  xs : List (Str × Nat)
  b : List Str
def Tx.g (t : Tx) : List (Str × GV) := t.ds.map (fun p => (p.2.x, .fn p.1)) ++ t.cs.map (fun p => (p.1, .cst p.2)) ++ t.xs.map (fun p => (p.1, .exc p.2))
def Tx.fa (t : Tx) : List He.Fa := t.ds.map (fun p => .glo p.2.x) ++ t.b.map .free ++ t.xs.map (fun p => .glo p.1) ++ t.xs.map (fun p => .exc p.1)
def dD (d : Df) : He.DefD := ⟨(d.x, none), d.x, d.x, d.params, d.body, d.sc, [], []⟩
def Tx.fn (t : Tx) : List He.DefD := t.ds.map fun p => dD p.2
def cstB (K : PySem.W.Frag) (p : Str × P) : Bool := match PySem.W.nsIn K mainGlobals p.1 with
  | some (some u) => datB K p.2 u
  | _ => false
def Tx.ex (t : Tx) (K : PySem.W.Frag) : Bool := t.cs.all (cstB K)
/-- where a def, a class stands -/
def Tx.fA (t : Tx) (K : PySem.W.Frag) : FA := fun i => match t.ds.lookup i with
  | some d => He.fAd K (d.x, none)
  | none => 0
def Tx.cA (t : Tx) (K : PySem.W.Frag) : FA := fun i => match t.xs.find? (fun p => p.2 == i) with
  | some p => He.ga K p.1
  | none => 0
/-- ids and names stand once -/
def Tx.once (t : Tx) : Bool := decide (t.ds.map (·.1)).Nodup && decide (t.xs.map (·.2)).Nodup
theorem lookup_of {α : Type} {l : List (Nat × α)} (nd : (l.map (·.1)).Nodup) {i : Nat} {a : α} (h : (i, a) ∈ l) : l.lookup i = some a := by
  induction l with
  | nil => cases h
  | cons p l ih =>
    obtain ⟨j, b⟩ := p
    rw [List.map_cons, List.nodup_cons] at nd
    rcases List.mem_cons.mp h with h | h
    · cases h
      rw [List.lookup_cons_self]
    · have : i ≠ j := fun z => nd.1 (List.mem_map.mpr ⟨(i, a), h, z⟩)
      rw [List.lookup_cons]
      have hb : (i == j) = false := by simpa using this
      rw [hb]
      exact ih nd.2 h
theorem find_of {l : List (Str × Nat)} (nd : (l.map (·.2)).Nodup) {i : Nat} {x : Str} (h : (x, i) ∈ l) : l.find? (fun p => p.2 == i) = some (x, i) := by
  induction l with
  | nil => cases h
  | cons p l ih =>
    obtain ⟨y, j⟩ := p
    rw [List.map_cons, List.nodup_cons] at nd
    rcases List.mem_cons.mp h with h | h
    · cases h
      rw [List.find?_cons_of_pos (by simp)]
    · have : i ≠ j := fun z => nd.1 (List.mem_map.mpr ⟨(x, i), h, z⟩)
      rw [List.find?_cons_of_neg (by simp; exact fun z => this z.symm)]
      exact ih nd.2 h
theorem modOk {t : Tx} {w : World} {K : PySem.W.Frag} {h : Heap} {mg : Str → Option Value} {ts : List He.Tab} {tf : List He.Defn} (c : He.SaysX t.fa t.fn ts tf t.ex w h K) (X : K.In h) (G : h.Ns mainGlobals mg) (once : t.once = true)
    (bnd : ∀ p ∈ t.ds, ∀ (kV doc pm : Value) (an : Option Addr) (cdv ct : Value) (us : List Value), us.length = p.2.ps.length → bindArgs (PySem.W.fnOf p.2.x p.2.x p.2.params p.2.body p.2.sc .none kV doc pm an cdv ct) ⟨us, []⟩ = pure (p.2.ps.zip us)) :
    ModOk K mg (t.fA K) (t.cA K) t.g t.b t.ds := by
  unfold Tx.once at once
  rw [Bool.and_eq_true, decide_eq_true_eq, decide_eq_true_eq] at once
  obtain ⟨nd1, nd2⟩ := once
  have cd : He.SaysD t.fa t.fn K := c.t.d
  have fAe : ∀ {i : Nat} {d : Df}, (i, d) ∈ t.ds → t.fA K i = He.fAd K (d.x, none) := fun {i d} hm => by
    unfold Tx.fA
    rw [lookup_of nd1 hm]
  have cAe : ∀ {x : Str} {i : Nat}, (x, i) ∈ t.xs → t.cA K i = He.ga K x := fun {x i} hm => by
    unfold Tx.cA
    rw [find_of nd2 hm]
  have gm : ∀ {x : Str} {v : GV}, t.g.lookup x = some v → (∃ p ∈ t.ds, x = p.2.x ∧ v = .fn p.1) ∨ (∃ p ∈ t.cs, x = p.1 ∧ v = .cst p.2) ∨ ∃ p ∈ t.xs, x = p.1 ∧ v = .exc p.2 := fun {x v} e => by
    have hm := PySem.mem_of_lookup e
    unfold Tx.g at hm
    rw [List.mem_append, List.mem_append] at hm
    rcases hm with (hm | hm) | hm
    · obtain ⟨p, hp, e⟩ := List.mem_map.mp hm; cases e; exact .inl ⟨p, hp, rfl, rfl⟩
    · obtain ⟨p, hp, e⟩ := List.mem_map.mp hm; cases e; exact .inr (.inl ⟨p, hp, rfl, rfl⟩)
    · obtain ⟨p, hp, e⟩ := List.mem_map.mp hm; cases e; exact .inr (.inr ⟨p, hp, rfl, rfl⟩)
  refine ⟨fun x i e => ?_, fun i d hm => ?_, fun x v e => ?_, fun x v e => ?_, fun x hb => ?_⟩
  · rcases gm e with ⟨p, hp, rfl, e2⟩ | ⟨p, hp, _, e2⟩ | ⟨p, hp, _, e2⟩
    · cases e2
      refine ⟨?_, p.2, hp, rfl⟩
      rw [fAe (d := p.2) hp]
      exact He.glo_ok X G (cd.facts (List.mem_append_left _ (List.mem_append_left _ (List.mem_append_left _ (List.mem_map.mpr ⟨p, hp, rfl⟩)))))
    · cases e2
    · cases e2
  · obtain ⟨fd, F⟩ := cd.defs (d := dD d) (List.mem_map.mpr ⟨(i, d), hm, rfl⟩)
    have F : FunD K d.x d.x d.params d.body d.sc [] [] (t.fA K i) fd := by rw [fAe hm]; exact F
    exact ⟨fd, F, F.bindsN (bnd (i, d) hm)⟩
  · rcases gm e with ⟨p, hp, _, e2⟩ | ⟨p, hp, rfl, e2⟩ | ⟨p, hp, _, e2⟩
    · cases e2
    · cases e2
      have hc := List.all_eq_true.mp c.more p hp
      unfold cstB at hc
      split at hc
      · rename_i u hu
        obtain ⟨v, r, k⟩ := datB_ok hc
        exact ⟨u, v, PySem.W.mg_of X G hu, r, k⟩
      · cases hc
    · cases e2
  · rcases gm e with ⟨p, hp, _, e2⟩ | ⟨p, hp, _, e2⟩ | ⟨p, hp, rfl, e2⟩
    · cases e2
    · cases e2
    · cases e2
      rw [cAe (x := p.1) hp]
      obtain ⟨h1, h2, h3, h4⟩ := He.exc_ok (cd.facts (List.mem_append_right _ (List.mem_map.mpr ⟨p, hp, rfl⟩)))
      exact ⟨⟨_, _, _, _, PySem.F.excBase_ValueError, h1⟩, He.glo_ok X G (cd.facts (List.mem_append_left _ (List.mem_append_right _ (List.mem_map.mpr ⟨p, hp, rfl⟩)))), h2, h3, h4⟩
  · exact He.free_ok X G (cd.facts (List.mem_append_left _ (List.mem_append_left _ (List.mem_append_right _ (List.mem_map.mpr ⟨x, hb, rfl⟩)))))
/-! ### the law -/
theorem spLaw_of {K : PySem.W.Frag} {fa ca : FA} {Φ : Fs} {i : Nat} {H : Hp} {a : Addr} {ns : List Int} (h : SqL K H a (ns.map V.int)) (hz : ns.length ≤ 16777216) (e : Φ i [.sh (.fz ns)] = .ok (.d (.bool true)) false [none]) :
    spF K fa ca Φ i [.ref a] H (fun v _ => v = .bl true) fun _ _ _ => False := by
  refine ⟨fun _ => False, [.sh (.fz ns)], fun _ w => w.elim, .sh ⟨hz, a, rfl, FzL.of h⟩ .nil, fun i j x y b h1 => ?_, ?_⟩
  · cases i with
    | zero => simp at h1
    | succ i => simp at h1
  · rw [e]
    intro W' v H' f r
    have r : Rp K W' H' (.bool true) v := r
    cases r
    rfl

/-- the law's def at the head's heap -/
theorem lawAt {t : Tx} {l : PySem.W.OpenLaw} {w : World} {K : PySem.W.Frag} {h : Heap} {mg : Str → Option Value} {T : Nat → Option Fd} {f : Addr} {n k i : Nat} {d : Df} (c : He.SaysX t.fa t.fn [] [] t.ex w h K) (X : K.In h) (G : h.Ns mainGlobals mg) (once : t.once = true)
    (bnd : ∀ p ∈ t.ds, ∀ (kV doc pm : Value) (an : Option Addr) (cdv ct : Value) (us : List Value), us.length = p.2.ps.length → bindArgs (PySem.W.fnOf p.2.x p.2.x p.2.params p.2.body p.2.sc .none kV doc pm an cdv ct) ⟨us, []⟩ = pure (p.2.ps.zip us))
    (hT : DfsOk t.g t.b t.ds T) (hd : (i, d) ∈ t.ds) (hx : d.x = "law") (hps : d.ps = [("script" : Str)]) (hf : mg "law" = some (.ref f)) (hn : n ≤ 16777216) (law : ∀ ns : List Int, ns.length ≤ n → (∀ z ∈ ns, Builtin.Int.intBits z ≤ 1048576) → runs T k i [.sh (.fz ns)] = .ok (.d (.bool true)) false [none]) :
    LamX.LawAtS l w K (L2.CX l.prog w) k n "script" mg f h := by
  have M := modOk c X G once bnd
  obtain ⟨fd, F, B⟩ := M.fun_ i d hd
  have once' := once
  unfold Tx.once at once'
  rw [Bool.and_eq_true, decide_eq_true_eq, decide_eq_true_eq] at once'
  have cd : He.SaysD t.fa t.fn K := c.t.d
  have ef : t.fA K i = f := by
    have e1 : mg d.x = some (.ref (He.fAd K (d.x, none))) := He.glo_ok X G (cd.facts (List.mem_append_left _ (List.mem_append_left _ (List.mem_append_left _ (List.mem_map.mpr ⟨(i, d), hd, rfl⟩)))))
    rw [hx, hf] at e1
    have e2 : t.fA K i = He.fAd K (d.x, none) := by
      unfold Tx.fA
      rw [lookup_of once'.1 hd]
    rw [e2, hx]
    cases e1
    rfl
  refine ⟨fd, [], spF K (t.fA K) (t.cA K) (runs T k) i, fun p hp => (by cases hp), fun p hp => (by cases hp), fun p hp => (by cases hp), fun s u => ?_, fun H a ns hl hb _ hS => spLaw_of hS (Nat.le_trans hl hn) (law ns hl hb), fun base _ _ _ => ?_⟩
  · have := F.bindsA (bnd (i, d) hd) s [u] (by show 1 = d.ps.length; rw [hps]; rfl)
    rw [hps] at this
    exact this
  · have := fn_all (P := l.prog) (w := w) (base := base) M hT k i d fd hd F
    rw [ef, hps] at this
    exact this
theorem cx_never {P : Program} {w : World} {H : Hp} {s : Shared} {e : Value} {s' : Shared} (h : L2.CX P w [] H s (fun _ _ _ => False) e s') : False := by
  obtain ⟨_, _, _, _, _, _, _, _, _, _, _, _, z⟩ := h
  exact z

/-! ### lists of defs, one by one -/
def AllD (Q : Nat × Df → Prop) : List (Nat × Df) → Prop
  | [] => True
  | p :: r => Q p ∧ AllD Q r
theorem AllD.of {Q : Nat × Df → Prop} : ∀ {l : List (Nat × Df)}, AllD Q l → ∀ p ∈ l, Q p
  | [], _, p, hp => by cases hp
  | q :: r, h, p, hp => by
    rcases List.mem_cons.mp hp with e | e
    · subst e; exact h.1
    · exact AllD.of h.2 p e
def Bnd (p : Nat × Df) : Prop := ∀ (kV doc pm : Value) (an : Option Addr) (cdv ct : Value) (us : List Value), us.length = p.2.ps.length → bindArgs (PySem.W.fnOf p.2.x p.2.x p.2.params p.2.body p.2.sc .none kV doc pm an cdv ct) ⟨us, []⟩ = pure (p.2.ps.zip us)
def DOk (g : List (Str × GV)) (b : List Str) (T : Nat → Option Fd) (p : Nat × Df) : Prop := ∃ t, T p.1 = some t ∧ dfOk g b p.2 t
end Mp

set_option maxRecDepth 100000
set_option maxHeartbeats 4000000
/-! Mq1: the evaluator by simp. -/
namespace Mp
open PySem L2

/-! ### results -/
@[simp] theorem R_ite_ok {α : Type} (c : Prop) [Decidable c] (a b : α) (ρ : Env) : (if c then R.ok a ρ else R.ok b ρ) = R.ok (if c then a else b) ρ := by split <;> rfl
@[simp] theorem sh_ite (c : Prop) [Decidable c] (a b : D) : (if c then RV.sh a else RV.sh b) = RV.sh (if c then a else b) := by split <;> rfl
@[simp] theorem d_ite (c : Prop) [Decidable c] (a b : P) : (if c then D.d a else D.d b) = D.d (if c then a else b) := by split <;> rfl
@[simp] theorem bool_ite (c : Prop) [Decidable c] (a b : Bool) : (if c then PyData.bool a else PyData.bool b) = PyData.bool (if c then a else b) := by split <;> rfl
@[simp] theorem int_ite (c : Prop) [Decidable c] (a b : Int) : (if c then PyData.int a else PyData.int b) = PyData.int (if c then a else b) := by split <;> rfl
@[simp] theorem ite_false_and (a b : Bool) : (if a = false then a else b) = (a && b) := by cases a <;> rfl
@[simp] theorem ite_true_or (a b : Bool) : (if a = true then a else b) = (a || b) := by cases a <;> rfl
@[simp] theorem sOf_ok {α : Type} (a : α) (ρ : Env) (k : α → Env → SR) : sOf (.ok a ρ) k = k a ρ := rfl
@[simp] theorem sOf_ex {α : Type} (e : Ex) (ρ : Env) (k : α → Env → SR) : sOf (.ex e ρ) k = .ex e ρ := rfl
@[simp] theorem rt_ite (c : Prop) [Decidable c] (a b : RV) (ρ : Env) : (if c then SR.rt a ρ else SR.rt b ρ) = SR.rt (if c then a else b) ρ := by split <;> rfl
@[simp] theorem nx_ite (c : Prop) [Decidable c] (ρ ρ' : Env) : (if c then SR.nx ρ else SR.nx ρ') = SR.nx (if c then ρ else ρ') := by split <;> rfl
@[simp] theorem shP_eq (x : P) : shP x = .sh (.d x) := rfl
@[simp] theorem newP_list (xs : List P) : newP (.list xs) = .fr (.d (.list xs)) := rfl
@[simp] theorem newP_int (i : Int) : newP (.int i) = .sh (.d (.int i)) := rfl
@[simp] theorem newP_str (i : Str) : newP (.str i) = .sh (.d (.str i)) := rfl
@[simp] theorem newP_tuple (xs : List P) : newP (.tuple xs) = .sh (.d (.tuple xs)) := rfl
@[simp] theorem newP_bool (i : Bool) : newP (.bool i) = .sh (.d (.bool i)) := rfl
@[simp] theorem deref_sh (ρ : Env) (x : D) : deref ρ (.sh x) = some x := rfl
@[simp] theorem deref_fr (ρ : Env) (x : D) : deref ρ (.fr x) = some x := rfl
@[simp] theorem derefP_sh (ρ : Env) (x : P) : derefP ρ (.sh (.d x)) = some x := rfl
@[simp] theorem derefP_fr (ρ : Env) (x : P) : derefP ρ (.fr (.d x)) = some x := rfl
@[simp] theorem derefP_br (ρ : Env) (j : Nat) : derefP ρ (.br j) = match ρ[j]? with
    | some (.own _ (.d x)) => some x
    | _ => none := by
  unfold derefP
  dsimp only [deref]
  cases ρ[j]? with
  | none => rfl
  | some s => cases s with
    | own l x => cases x <;> rfl
    | _ => rfl
@[simp] theorem deref_br (ρ : Env) (j : Nat) : deref ρ (.br j) = match ρ[j]? with
    | some (.own _ x) => some x
    | _ => none := rfl
/-! ### operations -/
@[simp] theorem varE_eq (i : Nat) (ρ : Env) : varE i ρ = match ρ[i]? with
  | some (.val x) => .ok (.sh x) ρ
  | some (.own _ _) => .ok (.br i) ρ
  | _ => .bad := rfl
@[simp] theorem un_eq (nw : Bool) (f : P → Option P) (r : RV) (ρ : Env) : un nw f r ρ = match derefP ρ r with
  | some x => (match f x with
    | some y => .ok (if nw then newP y else shP y) ρ
    | none => .bad)
  | none => .bad := rfl
@[simp] theorem bi2_eq (nw : Bool) (f : P → P → Option P) (r s : RV) (ρ : Env) : bi2 nw f r s ρ = match derefP ρ r, derefP ρ s with
  | some x, some y => (match f x y with
    | some z => .ok (if nw then newP z else shP z) ρ
    | none => .bad)
  | _, _ => .bad := rfl
@[simp] theorem cm2_eq (f : P → P → Option Bool) (r s : RV) (ρ : Env) : cm2 f r s ρ = match derefP ρ r, derefP ρ s with
  | some x, some y => (match f x y with
    | some z => .ok (shP (.bool z)) ρ
    | none => .bad)
  | _, _ => .bad := rfl
@[simp] theorem truR_bool (b : Bool) (ρ : Env) : truR (.sh (.d (.bool b))) ρ = .ok b ρ := rfl
@[simp] theorem truR_int (b : Int) (ρ : Env) : truR (.sh (.d (.int b))) ρ = .ok (b != 0) ρ := rfl
@[simp] theorem truR_list (b : List P) (ρ : Env) : truR (.sh (.d (.list b))) ρ = .ok (!b.isEmpty) ρ := rfl
@[simp] theorem truR_listF (b : List P) (ρ : Env) : truR (.fr (.d (.list b))) ρ = .ok (!b.isEmpty) ρ := rfl
@[simp] theorem truR_tuple (b : List P) (ρ : Env) : truR (.sh (.d (.tuple b))) ρ = .ok (!b.isEmpty) ρ := rfl
@[simp] theorem truR_none (ρ : Env) : truR (.sh (.d .none)) ρ = .ok false ρ := rfl
@[simp] theorem chainE_eq (op op' : COp) (a b c : Env → R RV) (ρ : Env) : chainE op op' a b c ρ =
  (a ρ).bind fun r ρ1 => (b ρ1).bind fun s ρ2 => (cm2 op.f r s ρ2).bind fun t ρ3 => (truR t ρ3).bind fun k ρ4 => if k then (c ρ4).bind fun u ρ5 => cm2 op'.f s u ρ5 else .ok (shP (.bool false)) ρ4 := rfl
@[simp] theorem BOp_add : BOp.f .add = addP := rfl
@[simp] theorem BOp_sub : BOp.f .sub = subP := rfl
@[simp] theorem BOp_mul : BOp.f .mul = mulP := rfl
@[simp] theorem BOp_fdiv : BOp.f .fdiv = fdivP := rfl
@[simp] theorem BOp_mod : BOp.f .mod = modP := rfl
@[simp] theorem BOp_pow : BOp.f .pow = powP := rfl
@[simp] theorem addP_int (i j : Int) : addP (.int i) (.int j) = some (.int (i + j)) := rfl
@[simp] theorem addP_tup (i j : List P) : addP (.tuple i) (.tuple j) = if i.length + j.length ≤ 16777216 then some (.tuple (i ++ j)) else none := rfl
@[simp] theorem addP_lst (i j : List P) : addP (.list i) (.list j) = if i.length + j.length ≤ 16777216 then some (.list (i ++ j)) else none := rfl
@[simp] theorem subP_int (i j : Int) : subP (.int i) (.int j) = some (.int (i - j)) := rfl
@[simp] theorem mulP_int (i j : Int) : mulP (.int i) (.int j) = if smallI i || smallI j then some (.int (i * j)) else none := rfl
@[simp] theorem fdivP_int (i j : Int) : fdivP (.int i) (.int j) = if 0 < j ∧ j < 1073741824 then some (.int (i / j)) else none := rfl
@[simp] theorem modP_int (i j : Int) : modP (.int i) (.int j) = if 0 < j then some (.int (i % j)) else none := rfl
@[simp] theorem powP_int (i j : Int) : powP (.int i) (.int j) = if 0 ≤ j ∧ j ≤ 1000 ∧ -1000000 ≤ i ∧ i ≤ 1000000 then some (.int (i ^ j.toNat)) else none := rfl
@[simp] theorem negP_int (i : Int) : negP (.int i) = some (.int (-i)) := rfl
@[simp] theorem COp_eq (a b : P) : COp.f .eq a b = eqP a b := rfl
@[simp] theorem COp_ne (a b : P) : COp.f .ne a b = (eqP a b).map (!·) := rfl
@[simp] theorem COp_lt (a b : P) : COp.f .lt a b = ltP a b := rfl
@[simp] theorem COp_le (a b : P) : COp.f .le a b = leP a b := rfl
@[simp] theorem COp_gt (a b : Int) : COp.f .gt (.int a) (.int b) = some (decide (b < a)) := rfl
@[simp] theorem COp_ge (a b : P) : COp.f .ge a b = leP b a := rfl
@[simp] theorem COp_is (a b : P) : COp.f .is a b = isP a b := rfl
@[simp] theorem COp_isnot (a b : P) : COp.f .isnot a b = (isP a b).map (!·) := rfl
@[simp] theorem COp_in (a b : P) : COp.f .in_ a b = inP a b := rfl
@[simp] theorem COp_notin (a b : P) : COp.f .notin a b = (inP a b).map (!·) := rfl
@[simp] theorem leP_int (a b : Int) : leP (.int a) (.int b) = some (decide (a ≤ b)) := rfl
@[simp] theorem ltP_int (a b : Int) : ltP (.int a) (.int b) = some (decide (a < b)) := rfl
@[simp] theorem isP_none (a : P) : isP a .none = some (isNoneP a) := by cases a <;> rfl
@[simp] theorem isP_bool (a b : Bool) : isP (.bool a) (.bool b) = some (a == b) := rfl
@[simp] theorem isNoneP_none : isNoneP .none = true := rfl
@[simp] theorem isNoneP_int (i : Int) : isNoneP (.int i) = false := rfl
@[simp] theorem isNoneP_bool (i : Bool) : isNoneP (.bool i) = false := rfl
@[simp] theorem isNoneP_str (i : Str) : isNoneP (.str i) = false := rfl
@[simp] theorem isNoneP_tuple (i : List P) : isNoneP (.tuple i) = false := rfl
@[simp] theorem isNoneP_list (i : List P) : isNoneP (.list i) = false := rfl
/-- == -/
theorem depth_int (i : Int) : (PyData.int i).depth = 0 := rfl
@[simp] theorem eqP_int (a b : Int) : eqP (.int a) (.int b) = some (decide (a = b)) := by
  unfold eqP
  rw [if_pos (show min (PyData.int a).depth (PyData.int b).depth ≤ 64 by show min 0 0 ≤ 64; decide)]
  show some (a == b) = _
  by_cases h : a = b <;> simp [h]
@[simp] theorem eqP_str (a b : Str) : eqP (.str a) (.str b) = some (a == b) := by
  unfold eqP
  rw [if_pos (show min (PyData.str a).depth (PyData.str b).depth ≤ 64 by show min 0 0 ≤ 64; decide)]
  rfl
@[simp] theorem Bi_len : Bi.f .len = lenP := rfl
@[simp] theorem Bi_abs : Bi.f .abs = absP := rfl
@[simp] theorem Bi_int : Bi.f .int = intP := rfl
@[simp] theorem Bi_all : Bi.f .all = allP := rfl
@[simp] theorem Bi_any : Bi.f .any = anyP := rfl
@[simp] theorem Bi_tuple : Bi.f .tuple = tupP := rfl
@[simp] theorem Bi_sum : Bi.f .sum = sumP := rfl
@[simp] theorem Bi_str : Bi.f .str = strP := rfl
@[simp] theorem Bi_isi (T : Ty) (x : P) : Bi.f (.isi T) x = some (.bool (isiP T x)) := rfl
@[simp] theorem lenP_list (x : List P) : lenP (.list x) = some (.int x.length) := rfl
@[simp] theorem lenP_tuple (x : List P) : lenP (.tuple x) = some (.int x.length) := rfl
@[simp] theorem absP_int (x : Int) : absP (.int x) = some (.int (if x < 0 then -x else x)) := rfl
@[simp] theorem intP_int (x : Int) : intP (.int x) = some (.int x) := rfl
@[simp] theorem allP_list (x : List P) : allP (.list x) = (boolsP x).map fun bs => .bool (bs.all id) := rfl
@[simp] theorem anyP_list (x : List P) : anyP (.list x) = (boolsP x).map fun bs => .bool (bs.any id) := rfl
@[simp] theorem tupP_list (x : List P) : tupP (.list x) = some (.tuple x) := rfl
@[simp] theorem tupP_tuple (x : List P) : tupP (.tuple x) = some (.tuple x) := rfl
@[simp] theorem sumP_list (x : List P) : sumP (.list x) = (intsP x).map fun ns => .int ns.sum := rfl
@[simp] theorem strP_str (x : Str) : strP (.str x) = some (.str x) := rfl
theorem boolsP_map {α : Type} (f : α → Bool) : ∀ xs : List α, boolsP (xs.map fun x => .bool (f x)) = some (xs.map f)
  | [] => rfl
  | x :: xs => by simp [boolsP, boolsP_map f xs]
theorem intsP_map {α : Type} (f : α → Int) : ∀ xs : List α, intsP (xs.map fun x => .int (f x)) = some (xs.map f)
  | [] => rfl
  | x :: xs => by simp [intsP, intsP_map f xs]
@[simp] theorem isi_tuple_tuple (x : List P) : isiP .tuple (.tuple x) = true := rfl
@[simp] theorem isi_int_int (x : Int) : isiP .int (.int x) = true := rfl
@[simp] theorem isi_int_bool (x : Bool) : isiP .int (.bool x) = true := rfl
@[simp] theorem isi_bool_bool (x : Bool) : isiP .bool (.bool x) = true := rfl
@[simp] theorem isi_str_str (x : Str) : isiP .str (.str x) = true := rfl
@[simp] theorem isi_list_list (x : List P) : isiP .list (.list x) = true := rfl
@[simp] theorem isi_tuple_int (x : Int) : isiP .tuple (.int x) = false := rfl
@[simp] theorem isi_tuple_bool (x : Bool) : isiP .tuple (.bool x) = false := rfl
@[simp] theorem isi_tuple_str (x : Str) : isiP .tuple (.str x) = false := rfl
@[simp] theorem isi_tuple_list (x : List P) : isiP .tuple (.list x) = false := rfl
@[simp] theorem isi_tuple_none : isiP .tuple .none = false := rfl
@[simp] theorem isi_bool_int (x : Int) : isiP .bool (.int x) = false := rfl
@[simp] theorem isi_bool_tuple (x : List P) : isiP .bool (.tuple x) = false := rfl
@[simp] theorem isi_bool_list (x : List P) : isiP .bool (.list x) = false := rfl
@[simp] theorem isi_bool_str (x : Str) : isiP .bool (.str x) = false := rfl
@[simp] theorem isi_bool_none : isiP .bool .none = false := rfl
@[simp] theorem isi_int_tuple (x : List P) : isiP .int (.tuple x) = false := rfl
@[simp] theorem isi_int_list (x : List P) : isiP .int (.list x) = false := rfl
@[simp] theorem isi_int_str (x : Str) : isiP .int (.str x) = false := rfl
@[simp] theorem isi_int_none : isiP .int .none = false := rfl
@[simp] theorem isi_str_int (x : Int) : isiP .str (.int x) = false := rfl
@[simp] theorem isi_str_bool (x : Bool) : isiP .str (.bool x) = false := rfl
@[simp] theorem isi_str_tuple (x : List P) : isiP .str (.tuple x) = false := rfl
@[simp] theorem isi_str_list (x : List P) : isiP .str (.list x) = false := rfl
@[simp] theorem isi_str_none : isiP .str .none = false := rfl
@[simp] theorem isi_list_int (x : Int) : isiP .list (.int x) = false := rfl
@[simp] theorem isi_list_bool (x : Bool) : isiP .list (.bool x) = false := rfl
@[simp] theorem isi_list_tuple (x : List P) : isiP .list (.tuple x) = false := rfl
@[simp] theorem isi_list_str (x : Str) : isiP .list (.str x) = false := rfl
@[simp] theorem isi_list_none : isiP .list .none = false := rfl
@[simp] theorem isi_dict (T : Ty) (x : List (P × P)) : isiP T (.dict x) = false := by cases T <;> rfl
/-! displays -/
@[simp] theorem datas_nil : datas [] = some [] := rfl
@[simp] theorem datas_sh (x : P) (r : List RV) : datas (.sh (.d x) :: r) = (datas r).map (x :: ·) := rfl
@[simp] theorem datas_fr (x : P) (r : List RV) : datas (.fr (.d x) :: r) = (datas r).map (x :: ·) := rfl
@[simp] theorem tupE_eq (rs : List RV) (ρ : Env) : tupE rs ρ = if rs.length ≤ 16777216 then (match datas rs with
    | some xs => .ok (shP (.tuple xs)) ρ
    | none => (match fnsOf rs with
      | some is => .ok (.sh (.fns is)) ρ
      | none => .bad)) else .bad := rfl
@[simp] theorem lstE_eq (rs : List RV) (ρ : Env) : lstE rs ρ = if rs.length ≤ 16777216 then (match datas rs with
    | some xs => .ok (.fr (.d (.list xs))) ρ
    | none => .bad) else .bad := rfl
@[simp] theorem lstR_list (x : List P) (ρ : Env) : lstR (.sh (.d (.list x))) ρ = .ok (.fr (.d (.list x))) ρ := rfl
@[simp] theorem lstR_listF (x : List P) (ρ : Env) : lstR (.fr (.d (.list x))) ρ = .ok (.fr (.d (.list x))) ρ := rfl
@[simp] theorem lstR_tuple (x : List P) (ρ : Env) : lstR (.sh (.d (.tuple x))) ρ = .ok (.fr (.d (.list x))) ρ := rfl
@[simp] theorem lstR_fz (x : List Int) (ρ : Env) : lstR (.sh (.fz x)) ρ = .ok (.fr (.d (.list (x.map PyData.int)))) ρ := rfl
/-! calls -/
@[simp] theorem argsOf_nil (ρ : Env) : argsOf ρ [] = some [] := rfl
@[simp] theorem argsOf_sh (ρ : Env) (x : D) (r : List RV) : argsOf ρ (.sh x :: r) = (argsOf ρ r).map (.sh x :: ·) := rfl
@[simp] theorem argsOf_fr (ρ : Env) (x : D) (r : List RV) : argsOf ρ (.fr x :: r) = (argsOf ρ r).map (.sh x :: ·) := rfl
@[simp] theorem argsOf_br (ρ : Env) (j : Nat) (r : List RV) : argsOf ρ (.br j :: r) = match ρ[j]? with
    | some (.own _ x) => (argsOf ρ r).map (.ln x :: ·)
    | _ => none := rfl
@[simp] theorem lents_nil : lents [] = [] := rfl
@[simp] theorem lents_sh (x : D) (r : List RV) : lents (.sh x :: r) = lents r := rfl
@[simp] theorem lents_fr (x : D) (r : List RV) : lents (.fr x :: r) = lents r := rfl
@[simp] theorem lents_br (j : Nat) (r : List RV) : lents (.br j :: r) = j :: lents r := rfl
@[simp] theorem putBk_nil (b : List (Option D)) (ρ : Env) : putBk [] b ρ = ρ := rfl
@[simp] theorem putBk_sh (x : D) (o : Option D) (r : List RV) (b : List (Option D)) (ρ : Env) : putBk (.sh x :: r) (o :: b) ρ = putBk r b ρ := rfl
@[simp] theorem putBk_fr (x : D) (o : Option D) (r : List RV) (b : List (Option D)) (ρ : Env) : putBk (.fr x :: r) (o :: b) ρ = putBk r b ρ := rfl
@[simp] theorem putBk_br (j : Nat) (x : D) (r : List RV) (b : List (Option D)) (ρ : Env) : putBk (.br j :: r) (some x :: b) ρ = putBk r b (match ρ[j]? with
    | some (.own l _) => ρ.set j (.own l x)
    | _ => ρ) := rfl
@[simp] theorem callE_eq (Φ : Fs) (f : Nat) (rs : List RV) (ρ : Env) : callE Φ f rs ρ =
  if (lents rs).Nodup then (match argsOf ρ rs with
    | some as => (match Φ f as with
      | .ok x fr bk => .ok (if fr then .fr x else .sh x) (putBk rs bk ρ)
      | .ex e bk => .ex e (putBk rs bk ρ)
      | .bad => .bad)
    | none => .bad) else .bad := rfl
@[simp] theorem wipeE_nil (ρ : Env) : wipeE ρ [] = ρ := rfl
@[simp] theorem wipeE_cons (ρ : Env) (v : Nat) (vs : List Nat) : wipeE ρ (v :: vs) = (wipeE ρ vs).set v .un := rfl
@[simp] theorem backE_nil (ρ0 ρ : Env) : backE ρ0 ρ [] = ρ := rfl
@[simp] theorem backE_cons (ρ0 ρ : Env) (v : Nat) (vs : List Nat) : backE ρ0 ρ (v :: vs) = (backE ρ0 ρ vs).set v (ρ0.getD v .un) := rfl
@[simp] theorem setTg_nm (i : Nat) (x : Str) (v : D) (ρ : Env) : setTg (.nm i x) v ρ = match ρ[i]? with
    | some (.own true _) => none
    | some _ => some (ρ.set i (.val v))
    | none => none := rfl
@[simp] theorem setTg_tp (ts : List (Nat × Str)) (xs : List P) (ρ : Env) : setTg (.tp ts) (.d (.tuple xs)) ρ = setN ts xs ρ := rfl
@[simp] theorem setN_nil (ρ : Env) : setN [] [] ρ = some ρ := rfl
@[simp] theorem setN_cons (i : Nat) (x : Str) (r : List (Nat × Str)) (v : P) (vs : List P) (ρ : Env) : setN ((i, x) :: r) (v :: vs) ρ = match ρ[i]? with
    | some (.own true _) => none
    | some _ => setN r vs (ρ.set i (.val (.d v)))
    | none => none := rfl
@[simp] theorem seqI_list (x : List P) (ρ : Env) : seqI (.sh (.d (.list x))) ρ = .ok (x.map .d) ρ := rfl
@[simp] theorem seqI_listF (x : List P) (ρ : Env) : seqI (.fr (.d (.list x))) ρ = .ok (x.map .d) ρ := rfl
@[simp] theorem seqI_tuple (x : List P) (ρ : Env) : seqI (.sh (.d (.tuple x))) ρ = .ok (x.map .d) ρ := rfl
@[simp] theorem seqI_fns (x : List Nat) (ρ : Env) : seqI (.sh (.fns x)) ρ = .ok (x.map .fn) ρ := rfl
@[simp] theorem rngI_int (a b : Int) (ρ : Env) : rngI (.sh (.d (.int a))) (.sh (.d (.int b))) ρ = if smallR a && smallR b && decide ((b - a).toNat ≤ 16777216) then .ok (rngL a b) ρ else .bad := rfl
@[simp] theorem zipI_tt (x y : List P) (ρ : Env) : zipI (.sh (.d (.tuple x))) (.sh (.d (.tuple y))) ρ = .ok (zipL x y) ρ := rfl
@[simp] theorem zipI_ll (x y : List P) (ρ : Env) : zipI (.sh (.d (.list x))) (.sh (.d (.list y))) ρ = .ok (zipL x y) ρ := rfl
@[simp] theorem zipI_lF (x y : List P) (ρ : Env) : zipI (.sh (.d (.list x))) (.fr (.d (.list y))) ρ = .ok (zipL x y) ρ := rfl
@[simp] theorem zipI_Fl (x y : List P) (ρ : Env) : zipI (.fr (.d (.list x))) (.sh (.d (.list y))) ρ = .ok (zipL x y) ρ := rfl
@[simp] theorem zipI_FF (x y : List P) (ρ : Env) : zipI (.fr (.d (.list x))) (.fr (.d (.list y))) ρ = .ok (zipL x y) ρ := rfl
@[simp] theorem enumI_l (x : List P) (ρ : Env) : enumI (.sh (.d (.list x))) ρ = .ok (enumL 0 x) ρ := rfl
@[simp] theorem enumI_F (x : List P) (ρ : Env) : enumI (.fr (.d (.list x))) ρ = .ok (enumL 0 x) ρ := rfl
@[simp] theorem enumI_t (x : List P) (ρ : Env) : enumI (.sh (.d (.tuple x))) ρ = .ok (enumL 0 x) ρ := rfl
@[simp] theorem toI_sh (i : Int) (ρ : Env) : toI (.sh (.d (.int i))) ρ = some i := rfl
@[simp] theorem evB_one (o : Bool) (p : Pr) (ρ : Env) : evB o [p] ρ = p.v ρ := rfl
@[simp] theorem evB_cons (o : Bool) (p q : Pr) (ps : List Pr) (ρ : Env) : evB o (p :: q :: ps) ρ = (p.v ρ).bind fun r ρ1 => (truR r ρ1).bind fun b ρ2 => if b == o then .ok r ρ2 else evB o (q :: ps) ρ2 := rfl
@[simp] theorem etB_one (o : Bool) (p : Pr) (ρ : Env) : etB o [p] ρ = p.t ρ := rfl
@[simp] theorem etB_cons (o : Bool) (p q : Pr) (ps : List Pr) (ρ : Env) : etB o (p :: q :: ps) ρ = (p.t ρ).bind fun b ρ1 => if b == o then .ok b ρ1 else etB o (q :: ps) ρ1 := rfl
@[simp] theorem evsL_nil (ρ : Env) : evsL [] ρ = .ok [] ρ := rfl
@[simp] theorem evsL_cons (p : Pr) (ps : List Pr) (ρ : Env) : evsL (p :: ps) ρ = (p.v ρ).bind fun r ρ1 => (evsL ps ρ1).bind fun rs ρ2 => .ok (r :: rs) ρ2 := rfl
@[simp] theorem ofV_v (f : Env → R RV) : (ofV f).v = f := rfl
@[simp] theorem ofV_t (f : Env → R RV) (ρ : Env) : (ofV f).t ρ = (f ρ).bind truR := rfl
@[simp] theorem ofT_v (f : Env → R Bool) (ρ : Env) : (ofT f).v ρ = (f ρ).bind fun b ρ1 => .ok (shP (.bool b)) ρ1 := rfl
@[simp] theorem ofT_t (f : Env → R Bool) : (ofT f).t = f := rfl
section
variable (Φ : Fs)
@[simp] theorem ev_var (i : Nat) (x : Str) : ev Φ (.var i x) = ofV (varE i) := rfl
@[simp] theorem ev_cst (c : P) : ev Φ (.cst c) = ofV fun ρ => .ok (shP c) ρ := rfl
@[simp] theorem ev_fn (f : Nat) : ev Φ (.fn f) = ofV fun ρ => .ok (.sh (.fn f)) ρ := rfl
@[simp] theorem ev_glob (x : Str) (c : P) : ev Φ (.glob x c) = ofV fun ρ => .ok (shP c) ρ := rfl
@[simp] theorem ev_bin (op : BOp) (a b : Tm) : ev Φ (.bin op a b) = ofV fun ρ => ((ev Φ a).v ρ).bind fun r ρ1 => ((ev Φ b).v ρ1).bind fun s ρ2 => bi2 true op.f r s ρ2 := rfl
@[simp] theorem ev_neg (a : Tm) : ev Φ (.neg a) = ofV fun ρ => ((ev Φ a).v ρ).bind fun r ρ1 => un false negP r ρ1 := rfl
@[simp] theorem ev_not (a : Tm) : ev Φ (.notE a) = ofT fun ρ => ((ev Φ a).t ρ).bind fun b ρ1 => .ok (!b) ρ1 := rfl
@[simp] theorem ev_bop (o : Bool) (ts : Tms) : ev Φ (.bop o ts) = ⟨evB o (evl Φ ts), etB o (evl Φ ts)⟩ := rfl
@[simp] theorem ev_cmp (op : COp) (a b : Tm) : ev Φ (.cmp op a b) = ofV fun ρ => ((ev Φ a).v ρ).bind fun r ρ1 => ((ev Φ b).v ρ1).bind fun s ρ2 => cm2 op.f r s ρ2 := rfl
@[simp] theorem ev_chain (op op' : COp) (a b c : Tm) : ev Φ (.chain op op' a b c) = ofV (chainE op op' (ev Φ a).v (ev Φ b).v (ev Φ c).v) := rfl
@[simp] theorem ev_ife (t a b : Tm) : ev Φ (.ife t a b) = ofV fun ρ => ((ev Φ t).t ρ).bind fun c ρ1 => if c then (ev Φ a).v ρ1 else (ev Φ b).v ρ1 := rfl
@[simp] theorem ev_tup (ts : Tms) : ev Φ (.tup ts) = ofV fun ρ => (evsL (evl Φ ts) ρ).bind tupE := rfl
@[simp] theorem ev_lst (ts : Tms) : ev Φ (.lst ts) = ofV fun ρ => (evsL (evl Φ ts) ρ).bind lstE := rfl
@[simp] theorem ev_ix (a b : Tm) : ev Φ (.ix a b) = ofV fun ρ => ((ev Φ a).v ρ).bind fun r ρ1 => ((ev Φ b).v ρ1).bind fun s ρ2 => bi2 false ixP r s ρ2 := rfl
@[simp] theorem ev_sl (a : Tm) (lo hi : To) : ev Φ (.sl a lo hi) = ofV fun ρ => ((ev Φ a).v ρ).bind fun r ρ1 => (evo Φ lo ρ1).bind fun l ρ2 => (evo Φ hi ρ2).bind fun h ρ3 => un true (cutP l h) r ρ3 := rfl
@[simp] theorem ev_rev (a : Tm) : ev Φ (.rev a) = ofV fun ρ => ((ev Φ a).v ρ).bind fun r ρ1 => un true revP r ρ1 := rfl
@[simp] theorem ev_call (f : Nat) (ts : Tms) : ev Φ (.call f ts) = ofV fun ρ => (evsL (evl Φ ts) ρ).bind (callE Φ f) := rfl
theorem ev_bi (b : Bi) (a : Tm) : ev Φ (.bi b a) = ofV fun ρ => ((ev Φ a).v ρ).bind (if b = .list then lstR else un false b.f) := rfl
@[simp] theorem ev_list (a : Tm) : ev Φ (.bi .list a) = ofV fun ρ => ((ev Φ a).v ρ).bind lstR := rfl
@[simp] theorem ev_len (a : Tm) : ev Φ (.bi .len a) = ofV fun ρ => ((ev Φ a).v ρ).bind (un false lenP) := rfl
@[simp] theorem ev_abs (a : Tm) : ev Φ (.bi .abs a) = ofV fun ρ => ((ev Φ a).v ρ).bind (un false absP) := rfl
@[simp] theorem ev_int (a : Tm) : ev Φ (.bi .int a) = ofV fun ρ => ((ev Φ a).v ρ).bind (un false intP) := rfl
@[simp] theorem ev_all (a : Tm) : ev Φ (.bi .all a) = ofV fun ρ => ((ev Φ a).v ρ).bind (un false allP) := rfl
@[simp] theorem ev_any (a : Tm) : ev Φ (.bi .any a) = ofV fun ρ => ((ev Φ a).v ρ).bind (un false anyP) := rfl
@[simp] theorem ev_tuple (a : Tm) : ev Φ (.bi .tuple a) = ofV fun ρ => ((ev Φ a).v ρ).bind (un false tupP) := rfl
@[simp] theorem ev_sum (a : Tm) : ev Φ (.bi .sum a) = ofV fun ρ => ((ev Φ a).v ρ).bind (un false sumP) := rfl
@[simp] theorem ev_str (a : Tm) : ev Φ (.bi .str a) = ofV fun ρ => ((ev Φ a).v ρ).bind (un false strP) := rfl
@[simp] theorem ev_isi (T : Ty) (a : Tm) : ev Φ (.bi (.isi T) a) = ofV fun ρ => ((ev Φ a).v ρ).bind (un false fun x => some (.bool (isiP T x))) := rfl
@[simp] theorem ev_comp (own : List (Str × Nat)) (tg : Tg) (it : Tit) (c : To) (e : Tm) : ev Φ (.comp own tg it c e) = ofV fun ρ => (evi Φ it ρ).bind fun items ρ1 => compE (own.map (·.2)) tg (etc Φ c) (ev Φ e).v items ρ1 := rfl
@[simp] theorem evl_nil : evl Φ .nil = [] := rfl
@[simp] theorem evl_cons (t : Tm) (ts : Tms) : evl Φ (.cons t ts) = ev Φ t :: evl Φ ts := rfl
@[simp] theorem evo_no (ρ : Env) : evo Φ .no ρ = .ok none ρ := rfl
@[simp] theorem evo_yes (t : Tm) (ρ : Env) : evo Φ (.yes t) ρ = ((ev Φ t).v ρ).bind fun r ρ1 => match toI r ρ1 with
    | some i => .ok (some i) ρ1
    | none => .bad := rfl
@[simp] theorem etc_no (ρ : Env) : etc Φ .no ρ = .ok true ρ := rfl
@[simp] theorem etc_yes (t : Tm) : etc Φ (.yes t) = (ev Φ t).t := rfl
@[simp] theorem evi_seq (t : Tm) (ρ : Env) : evi Φ (.seq t) ρ = ((ev Φ t).v ρ).bind seqI := rfl
@[simp] theorem evi_rng (t : Tm) (ρ : Env) : evi Φ (.rng t) ρ = ((ev Φ t).v ρ).bind fun r ρ1 => rngI (shP (.int 0)) r ρ1 := rfl
@[simp] theorem evi_rng2 (a b : Tm) (ρ : Env) : evi Φ (.rng2 a b) ρ = ((ev Φ a).v ρ).bind fun r ρ1 => ((ev Φ b).v ρ1).bind fun s ρ2 => rngI r s ρ2 := rfl
@[simp] theorem evi_zip (a b : Tm) (ρ : Env) : evi Φ (.zip a b) ρ = ((ev Φ a).v ρ).bind fun r ρ1 => ((ev Φ b).v ρ1).bind fun s ρ2 => zipI r s ρ2 := rfl
@[simp] theorem evi_enum (t : Tm) (ρ : Env) : evi Φ (.enum t) ρ = ((ev Φ t).v ρ).bind enumI := rfl
/-! statements -/
@[simp] theorem nxO_some (ρ : Env) : nxO (some ρ) = .nx ρ := rfl
@[simp] theorem nxO_none : nxO none = .bad := rfl
@[simp] theorem putR_sh (i : Nat) (x : D) (ρ : Env) : putR i (.sh x) ρ = match ρ[i]? with
  | some (.own true _) => none
  | none => none
  | some _ => some (ρ.set i (.val x)) := rfl
@[simp] theorem putR_fr (i : Nat) (x : D) (ρ : Env) : putR i (.fr x) ρ = match ρ[i]? with
  | some (.own true _) => none
  | none => none
  | some _ => some (ρ.set i (.own false x)) := rfl
@[simp] theorem putRs_nil (ρ : Env) : putRs [] [] ρ = some ρ := rfl
@[simp] theorem putRs_cons (i : Nat) (x : Str) (is : List (Nat × Str)) (r : RV) (rs : List RV) (ρ : Env) : putRs ((i, x) :: is) (r :: rs) ρ = (putR i r ρ).bind (putRs is rs) := rfl
@[simp] theorem shD_sh (x : D) : shD (.sh x) = some x := rfl
@[simp] theorem shD_fr (x : D) : shD (.fr x) = some x := rfl
@[simp] theorem appE_sh (i : Nat) (y : P) (ρ : Env) : appE i (.sh (.d y)) ρ = match ρ[i]? with
  | some (.own l (.d (.list xs))) => if xs.length < 16777216 then some (ρ.set i (.own l (.d (.list (xs ++ [y]))))) else none
  | _ => none := by
  show (match some [y], ρ[i]? with
    | some [y], some (.own l (.d (.list xs))) => if xs.length < 16777216 then some (ρ.set i (.own l (.d (.list (xs ++ [y]))))) else none
    | _, _ => none) = _
  rcases ρ[i]? with _ | _ | _ | ⟨l, x⟩ <;> first | rfl | (rcases x with x | _ | _ | _ | _ <;> first | rfl | (cases x <;> rfl))
@[simp] theorem appE_fr (i : Nat) (y : P) (ρ : Env) : appE i (.fr (.d y)) ρ = match ρ[i]? with
  | some (.own l (.d (.list xs))) => if xs.length < 16777216 then some (ρ.set i (.own l (.d (.list (xs ++ [y]))))) else none
  | _ => none := by
  show (match some [y], ρ[i]? with
    | some [y], some (.own l (.d (.list xs))) => if xs.length < 16777216 then some (ρ.set i (.own l (.d (.list (xs ++ [y]))))) else none
    | _, _ => none) = _
  rcases ρ[i]? with _ | _ | _ | ⟨l, x⟩ <;> first | rfl | (rcases x with x | _ | _ | _ | _ <;> first | rfl | (cases x <;> rfl))
@[simp] theorem ixSet_sh (i : Nat) (j : Int) (y : P) (ρ : Env) : ixSet i (.sh (.d (.int j))) (.sh (.d y)) ρ = match ρ[i]? with
  | some (.own l (.d (.list xs))) => (match ixN xs.length j with
    | some n => some (ρ.set i (.own l (.d (.list (xs.set n y)))))
    | none => none)
  | _ => none := by
  show (match some [PyData.int j], some [y], ρ[i]? with
    | some [PyData.int j], some [y], some (.own l (.d (.list xs))) => (match ixN xs.length j with
      | some n => some (ρ.set i (.own l (.d (.list (xs.set n y)))))
      | none => none)
    | _, _, _ => none) = _
  rcases ρ[i]? with _ | _ | _ | ⟨l, x⟩ <;> first | rfl | (rcases x with x | _ | _ | _ | _ <;> first | rfl | (cases x <;> rfl))
@[simp] theorem extE_eq (i : Nat) (r : RV) (ρ : Env) : extE i r ρ = match derefP ρ r, ρ[i]? with
  | some (.list ys), some (.own l (.d (.list xs))) => if xs.length + ys.length ≤ 16777216 then some (ρ.set i (.own l (.d (.list (xs ++ ys))))) else none
  | _, _ => none := rfl
@[simp] theorem augE_eq (i : Nat) (sub : Bool) (a : Int) (r : RV) (ρ : Env) : augE i sub a r ρ = match derefP ρ r with
  | some (.int b) => some (ρ.set i (.val (.d (.int (if sub then a - b else a + b)))))
  | _ => none := rfl
@[simp] theorem frzE_eq (i : Nat) (ρ : Env) : frzE i ρ = match ρ[i]? with
  | some (.own false x) => some (ρ.set i (.val x))
  | some (.val _) => some ρ
  | _ => none := rfl
@[simp] theorem sv_set (i : Nat) (x : Str) (e : Tm) (ρ : Env) : sv Φ (.set i x e) ρ = sOf ((ev Φ e).v ρ) fun r ρ1 => nxO (putR i r ρ1) := rfl
@[simp] theorem sv_setT (tg : Tg) (e : Tm) (ρ : Env) : sv Φ (.setT tg e) ρ = sOf ((ev Φ e).v ρ) fun r ρ1 => match shD r with
    | some x => nxO (setTg tg x ρ1)
    | none => .bad := rfl
@[simp] theorem sv_setP (is : List (Nat × Str)) (es : Tms) (ρ : Env) : sv Φ (.setP is es) ρ = sOf (evsL (evl Φ es) ρ) fun rs ρ1 => nxO (putRs is rs ρ1) := rfl
@[simp] theorem sv_setIx (i : Nat) (x : Str) (k e : Tm) (ρ : Env) : sv Φ (.setIx i x k e) ρ = sOf ((ev Φ e).v ρ) fun r ρ1 => match ρ1[i]? with
    | some (.own _ (.d (.list _))) => sOf ((ev Φ k).v ρ1) fun k ρ2 => nxO (ixSet i k r ρ2)
    | _ => .bad := rfl
@[simp] theorem sv_aug (i : Nat) (x : Str) (sub : Bool) (e : Tm) (ρ : Env) : sv Φ (.aug i x sub e) ρ = match ρ[i]? with
    | some (.val (.d (.int a))) => sOf ((ev Φ e).v ρ) fun r ρ1 => nxO (augE i sub a r ρ1)
    | some (.own _ (.d (.list _))) => if sub then .bad else sOf ((ev Φ e).v ρ) fun r ρ1 => nxO (extE i r ρ1)
    | _ => .bad := rfl
@[simp] theorem sv_app (i : Nat) (x : Str) (e : Tm) (ρ : Env) : sv Φ (.app i x e) ρ = match ρ[i]? with
    | some (.own _ (.d (.list _))) => sOf ((ev Φ e).v ρ) fun r ρ1 => nxO (appE i r ρ1)
    | _ => .bad := rfl
@[simp] theorem sv_expr (e : Tm) (ρ : Env) : sv Φ (.expr e) ρ = sOf ((ev Φ e).v ρ) fun _ ρ1 => .nx ρ1 := rfl
@[simp] theorem sv_ret (e : Tm) (ρ : Env) : sv Φ (.ret e) ρ = sOf ((ev Φ e).v ρ) fun r ρ1 => .rt r ρ1 := rfl
@[simp] theorem sv_ife (c : Tm) (a b : Tss) (ρ : Env) : sv Φ (.ife c a b) ρ = sOf ((ev Φ c).t ρ) fun t ρ1 => if t then svs Φ a ρ1 else svs Φ b ρ1 := rfl
@[simp] theorem sv_for (tg : Tg) (it : Tit) (b : Tss) (ρ : Env) : sv Φ (.forS tg it b) ρ = sOf (evi Φ it ρ) fun l ρ1 => forL tg (svs Φ b) l ρ1 := rfl
@[simp] theorem sv_whl (n : Nat) (c : Tm) (b : Tss) (ρ : Env) : sv Φ (.whl n c b) ρ = whlL (ev Φ c).t (svs Φ b) n ρ := rfl
@[simp] theorem sv_raise (c : Nat) (ρ : Env) : sv Φ (.raise c) ρ = .ex ⟨c, []⟩ ρ := rfl
@[simp] theorem sv_pass (ρ : Env) : sv Φ .pass ρ = .nx ρ := rfl
@[simp] theorem sv_brk (ρ : Env) : sv Φ .brk ρ = .bk ρ := rfl
@[simp] theorem sv_cont (ρ : Env) : sv Φ .cont ρ = .ct ρ := rfl
/-- what follows a statement -/
def seqS (r : SR) (k : Env → SR) : SR := match r with
  | .nx ρ1 => k ρ1
  | r => r
@[simp] theorem seqS_nx (ρ : Env) (k : Env → SR) : seqS (.nx ρ) k = k ρ := rfl
@[simp] theorem seqS_rt (r : RV) (ρ : Env) (k : Env → SR) : seqS (.rt r ρ) k = .rt r ρ := rfl
@[simp] theorem seqS_ex (e : Ex) (ρ : Env) (k : Env → SR) : seqS (.ex e ρ) k = .ex e ρ := rfl
@[simp] theorem seqS_bk (ρ : Env) (k : Env → SR) : seqS (.bk ρ) k = .bk ρ := rfl
@[simp] theorem seqS_ct (ρ : Env) (k : Env → SR) : seqS (.ct ρ) k = .ct ρ := rfl
@[simp] theorem seqS_ite (c : Prop) [Decidable c] (a b : SR) (k : Env → SR) : seqS (if c then a else b) k = if c then seqS a k else seqS b k := by split <;> rfl
@[simp] theorem svs_nil (ρ : Env) : svs Φ .nil ρ = .nx ρ := rfl
@[simp] theorem svs_cons (t : Ts) (ts : Tss) (ρ : Env) : svs Φ (.cons t ts) ρ = seqS (sv Φ t ρ) (svs Φ ts) := by
  show (match sv Φ t ρ with
    | .nx ρ1 => svs Φ ts ρ1
    | r => r) = _
  cases sv Φ t ρ <;> rfl
@[simp] theorem svs_frz (i : Nat) (ts : Tss) (ρ : Env) : svs Φ (.frz i ts) ρ = match frzE i ρ with
    | some ρ1 => svs Φ ts ρ1
    | none => .bad := rfl
end
/-! ### calls -/
@[simp] theorem fin_nx (as : List Arg) (ρ : Env) : fin as (.nx ρ) = match bkOf ρ as 0 with
    | some bk => .ok (.d .none) false bk
    | none => .bad := rfl
@[simp] theorem fin_rt (as : List Arg) (r : RV) (ρ : Env) : fin as (.rt r ρ) = match retR ρ r, bkOf ρ as 0 with
    | some (x, fr), some bk => .ok x fr bk
    | _, _ => .bad := rfl
@[simp] theorem fin_ex (as : List Arg) (e : Ex) (ρ : Env) : fin as (.ex e ρ) = match bkOf ρ as 0 with
    | some bk => .ex e bk
    | none => .bad := rfl
@[simp] theorem retR_sh (ρ : Env) (x : D) : retR ρ (.sh x) = some (x, false) := rfl
@[simp] theorem retR_fr (ρ : Env) (x : D) : retR ρ (.fr x) = some (x, true) := rfl
@[simp] theorem retR_br (ρ : Env) (j : Nat) : retR ρ (.br j) = match ρ[j]? with
    | some (.own false x) => some (x, true)
    | _ => none := rfl
@[simp] theorem bkOf_nil (ρ : Env) (i : Nat) : bkOf ρ [] i = some [] := rfl
@[simp] theorem bkOf_sh (ρ : Env) (x : D) (r : List Arg) (i : Nat) : bkOf ρ (.sh x :: r) i = (bkOf ρ r (i + 1)).map (none :: ·) := rfl
@[simp] theorem bkOf_ln (ρ : Env) (x : D) (r : List Arg) (i : Nat) : bkOf ρ (.ln x :: r) i = match ρ[i]? with
    | some (.own true x) => (bkOf ρ r (i + 1)).map (some x :: ·)
    | _ => none := rfl
@[simp] theorem slOf_sh (x : D) : slOf (.sh x) = .val x := rfl
@[simp] theorem slOf_ln (x : D) : slOf (.ln x) = .own true x := rfl
@[simp] theorem start_eq (n : Nat) (as : List Arg) : Mp.start n as = as.map slOf ++ List.replicate (n - as.length) .un := rfl
theorem runs_eq {T : Nat → Option Fd} {f : Nat} {d : Fd} (h : T f = some d) (k : Nat) (as : List Arg) : runs T (k + 1) f as = if as.length = d.np then fin as (svs (runs T k) d.body (Mp.start d.ns as)) else .bad := by
  show run1 T (runs T k) f as = _
  unfold run1
  rw [h]
/-! ### comprehensions -/
/-- each turn gives one thing and leaves the slots as they were -/
theorem comp_map {α : Type} {own : List Nat} {tg : Tg} {c : Env → R Bool} {e : Env → R RV} (enc : α → D) (keep : α → Bool) (f : α → P) {ρ : Env} :
    ∀ (xs : List α) (acc : List P), (∀ x ∈ xs, ∃ ρ1, setTg tg (enc x) ρ = some ρ1 ∧ ∃ ρ2, c ρ1 = .ok (keep x) ρ2 ∧ (keep x = false → wipeE ρ2 own = ρ) ∧ (keep x = true → ∃ r ρ3, e ρ2 = .ok r ρ3 ∧ datas [r] = some [f x] ∧ wipeE ρ3 own = ρ)) →
    compL own tg c e (xs.map enc) acc ρ = .ok (acc ++ (xs.filter keep).map f) ρ
  | [], acc, _ => by simp [compL]
  | x :: xs, acc, h => by
    obtain ⟨ρ1, h1, ρ2, h2, h3, h4⟩ := h x List.mem_cons_self
    have ih := comp_map (own := own) (tg := tg) (c := c) (e := e) enc keep f (ρ := ρ) xs
    rw [List.map_cons]
    unfold compL
    rw [h1]
    simp only
    rw [h2]
    cases hk : keep x with
    | true =>
      obtain ⟨r, ρ3, h5, h6, h7⟩ := h4 hk
      simp only [h5, h6, h7]
      rw [ih _ fun y hy => h y (List.mem_cons_of_mem _ hy), List.filter_cons_of_pos hk]
      simp
    | false =>
      simp only [h3 hk]
      rw [ih _ fun y hy => h y (List.mem_cons_of_mem _ hy), List.filter_cons_of_neg (by rw [hk]; exact Bool.false_ne_true)]
theorem forL_inv {tg : Tg} {b : Env → SR} (Inv : Nat → Env → Prop) : ∀ (xs : List D) (n : Nat) (ρ : Env), Inv n ρ → (∀ i x ρ, xs[i]? = some x → Inv (n + i) ρ → ∃ ρ1, setTg tg x ρ = some ρ1 ∧ ∃ ρ2, (b ρ1 = .nx ρ2 ∨ b ρ1 = .ct ρ2) ∧ Inv (n + i + 1) ρ2) →
    ∃ ρ', forL tg b xs ρ = .nx ρ' ∧ Inv (n + xs.length) ρ'
  | [], n, ρ, h0, _ => ⟨ρ, rfl, h0⟩
  | x :: xs, n, ρ, h0, hs => by
    obtain ⟨ρ1, h1, ρ2, h2, h3⟩ := hs 0 x ρ rfl h0
    obtain ⟨ρ', h4, h5⟩ := forL_inv (tg := tg) (b := b) Inv xs (n + 1) ρ2 h3 fun i y ρ hy hi => by
      obtain ⟨a, ha, c, hc, hd⟩ := hs (i + 1) y ρ (by simpa using hy) (by rw [show n + (i + 1) = n + 1 + i by omega]; exact hi)
      exact ⟨a, ha, c, hc, by rw [show n + 1 + i + 1 = n + (i + 1) + 1 by omega]; exact hd⟩
    refine ⟨ρ', ?_, by rw [List.length_cons, show n + (xs.length + 1) = n + 1 + xs.length by omega]; exact h5⟩
    unfold forL
    rw [h1]
    simp only
    rcases h2 with h2 | h2
    · rw [h2]; exact h4
    · rw [h2]; exact h4

/-- one turn: it gives y (none: left out) and leaves the slots as they were -/
def turnOk (own : List Nat) (tg : Tg) (c : Env → R Bool) (e : Env → R RV) (ρ : Env) (x : D) (y : Option P) : Prop := match setTg tg x ρ with
  | some ρ1 => (match c ρ1 with
    | .ok true ρ2 => (match e ρ2 with
      | .ok r ρ3 => datas [r] = y.map (fun z => [z]) ∧ y ≠ none ∧ wipeE ρ3 own = ρ
      | _ => False)
    | .ok false ρ2 => y = none ∧ wipeE ρ2 own = ρ
    | _ => False)
  | none => False
theorem compL_fm {α : Type} {own : List Nat} {tg : Tg} {c : Env → R Bool} {e : Env → R RV} (enc : α → D) (f : α → Option P) {ρ : Env} :
    ∀ (xs : List α) (acc : List P), (∀ x ∈ xs, turnOk own tg c e ρ (enc x) (f x)) → compL own tg c e (xs.map enc) acc ρ = .ok (acc ++ xs.filterMap f) ρ
  | [], acc, _ => by simp [compL]
  | x :: xs, acc, h => by
    have h0 := h x List.mem_cons_self
    have ih := compL_fm (own := own) (tg := tg) (c := c) (e := e) enc f (ρ := ρ) xs
    have ih' := fun acc => ih acc fun y hy => h y (List.mem_cons_of_mem _ hy)
    rw [List.map_cons]
    unfold compL
    unfold turnOk at h0
    cases e1 : setTg tg (enc x) ρ with
    | none => rw [e1] at h0; exact h0.elim
    | some ρ1 =>
      rw [e1] at h0
      simp only at h0 ⊢
      cases e2 : c ρ1 with
      | ex _ _ => rw [e2] at h0; exact h0.elim
      | bad => rw [e2] at h0; exact h0.elim
      | ok b ρ2 =>
        rw [e2] at h0
        cases b with
        | true =>
          simp only at h0 ⊢
          cases e3 : e ρ2 with
          | ex _ _ => rw [e3] at h0; exact h0.elim
          | bad => rw [e3] at h0; exact h0.elim
          | ok r ρ3 =>
            rw [e3] at h0
            obtain ⟨h1, h2, h3⟩ := h0
            cases ey : f x with
            | none => exact absurd ey h2
            | some z =>
              rw [ey] at h1
              have h1 : datas [r] = some [z] := h1
              simp only [h1, h3]
              rw [ih', List.filterMap_cons_some ey]
              simp
        | false =>
          obtain ⟨h1, h2⟩ := h0
          simp only [h2]
          rw [ih', List.filterMap_cons_none h1]
theorem compE_fm {α : Type} {own : List Nat} {tg : Tg} {c : Env → R Bool} {e : Env → R RV} (enc : α → D) (f : α → Option P) {ρ : Env} {xs : List α} (h : ∀ x ∈ xs, turnOk own tg c e (wipeE ρ own) (enc x) (f x)) :
    compE own tg c e (xs.map enc) ρ = .ok (.fr (.d (.list (xs.filterMap f)))) (backE ρ (wipeE ρ own) own) := by
  unfold compE
  rw [compL_fm enc f xs [] h]
  rfl
theorem compE_map {α : Type} {own : List Nat} {tg : Tg} {c : Env → R Bool} {e : Env → R RV} (enc : α → D) (f : α → P) {ρ : Env} {xs : List α} (h : ∀ x ∈ xs, turnOk own tg c e (wipeE ρ own) (enc x) (some (f x))) :
    compE own tg c e (xs.map enc) ρ = .ok (.fr (.d (.list (xs.map f)))) (backE ρ (wipeE ρ own) own) := by
  have := compE_fm enc (fun x => some (f x)) h
  rw [this]
  congr 4
  induction xs with
  | nil => rfl
  | cons x xs ih => simp
/-- turns that change the slots -/
theorem compL_iv {α : Type} {own : List Nat} {tg : Tg} {c : Env → R Bool} {e : Env → R RV} (enc : α → D) : ∀ (xs : List α) (acc : List P) (ρ : Env) (Iv : List α → List P → Env → Prop), Iv [] acc ρ →
    (∀ done x rest acc ρ, xs = done ++ x :: rest → Iv done acc ρ → ∃ ρ1, setTg tg (enc x) ρ = some ρ1 ∧ ((∃ ρ2 r ρ3 y, c ρ1 = .ok true ρ2 ∧ e ρ2 = .ok r ρ3 ∧ datas [r] = some [y] ∧ Iv (done ++ [x]) (acc ++ [y]) (wipeE ρ3 own)) ∨ (∃ ρ2, c ρ1 = .ok false ρ2 ∧ Iv (done ++ [x]) acc (wipeE ρ2 own)))) →
    ∃ acc' ρ', compL own tg c e (xs.map enc) acc ρ = .ok acc' ρ' ∧ Iv xs acc' ρ'
  | [], acc, ρ, Iv, h0, _ => ⟨acc, ρ, by simp [compL], h0⟩
  | x :: xs, acc, ρ, Iv, h0, hs => by
    obtain ⟨ρ1, h1, h2⟩ := hs [] x xs acc ρ rfl h0
    rw [List.map_cons]
    rcases h2 with ⟨ρ2, r, ρ3, y, h3, h4, h5, h6⟩ | ⟨ρ2, h3, h4⟩
    · obtain ⟨acc', ρ', g1, g2⟩ := compL_iv (own := own) (tg := tg) (c := c) (e := e) enc xs (acc ++ [y]) (wipeE ρ3 own) (fun d a ρ => Iv (x :: d) a ρ) h6 fun done z rest a ρ e hi => by
        obtain ⟨q1, q2, q3⟩ := hs (x :: done) z rest a ρ (by rw [e]; rfl) hi
        exact ⟨q1, q2, q3⟩
      refine ⟨acc', ρ', ?_, g2⟩
      unfold compL
      simp only [h1, h3, h4, h5]
      exact g1
    · obtain ⟨acc', ρ', g1, g2⟩ := compL_iv (own := own) (tg := tg) (c := c) (e := e) enc xs acc (wipeE ρ2 own) (fun d a ρ => Iv (x :: d) a ρ) h4 fun done z rest a ρ e hi => by
        obtain ⟨q1, q2, q3⟩ := hs (x :: done) z rest a ρ (by rw [e]; rfl) hi
        exact ⟨q1, q2, q3⟩
      refine ⟨acc', ρ', ?_, g2⟩
      unfold compL
      simp only [h1, h3]
      exact g1
theorem compE_iv {α : Type} {own : List Nat} {tg : Tg} {c : Env → R Bool} {e : Env → R RV} {ρ : Env} (enc : α → D) (xs : List α) (Iv : List α → List P → Env → Prop) (h0 : Iv [] [] (wipeE ρ own))
    (hs : ∀ done x rest acc ρ, xs = done ++ x :: rest → Iv done acc ρ → ∃ ρ1, setTg tg (enc x) ρ = some ρ1 ∧ ((∃ ρ2 r ρ3 y, c ρ1 = .ok true ρ2 ∧ e ρ2 = .ok r ρ3 ∧ datas [r] = some [y] ∧ Iv (done ++ [x]) (acc ++ [y]) (wipeE ρ3 own)) ∨ (∃ ρ2, c ρ1 = .ok false ρ2 ∧ Iv (done ++ [x]) acc (wipeE ρ2 own)))) :
    ∃ acc' ρ', compE own tg c e (xs.map enc) ρ = .ok (.fr (.d (.list acc'))) (backE ρ ρ' own) ∧ Iv xs acc' ρ' := by
  obtain ⟨acc, ρ', h1, h2⟩ := compL_iv (own := own) (tg := tg) (c := c) (e := e) enc xs [] (wipeE ρ own) Iv h0 hs
  refine ⟨acc, ρ', ?_, h2⟩
  unfold compE
  rw [h1]
end Mp

set_option maxRecDepth 100000
set_option maxHeartbeats 4000000
/-! Mq2: places, slices, lists. -/
namespace Mp
open PySem L2
@[simp] theorem ixP_t (xs : List P) (i : Int) : ixP (.tuple xs) (.int i) = atI xs i := rfl
@[simp] theorem ixP_l (xs : List P) (i : Int) : ixP (.list xs) (.int i) = atI xs i := rfl
theorem atI_nat {α : Type} (xs : List α) (n : Nat) : atI xs (n : Int) = xs[n]? := by
  unfold atI ixN
  by_cases h : n < xs.length
  · simp [h]
  · simp [h]
@[simp] theorem atI_0 {α : Type} (xs : List α) : atI xs 0 = xs[0]? := atI_nat xs 0
@[simp] theorem atI_1 {α : Type} (xs : List α) : atI xs 1 = xs[1]? := atI_nat xs 1
@[simp] theorem atI_2 {α : Type} (xs : List α) : atI xs 2 = xs[2]? := atI_nat xs 2
@[simp] theorem atI_3 {α : Type} (xs : List α) : atI xs 3 = xs[3]? := atI_nat xs 3
@[simp] theorem atI_4 {α : Type} (xs : List α) : atI xs 4 = xs[4]? := atI_nat xs 4
@[simp] theorem atI_cast {α : Type} (xs : List α) (n : Nat) : atI xs (n : Int) = xs[n]? := atI_nat xs n
theorem ixN_nat (n i : Nat) : ixN n (i : Int) = if i < n then some i else none := by
  unfold ixN
  by_cases h : i < n
  · simp [h]
  · simp [h]
@[simp] theorem ixN_0 (n : Nat) : ixN n 0 = if 0 < n then some 0 else none := ixN_nat n 0
@[simp] theorem ixN_1 (n : Nat) : ixN n 1 = if 1 < n then some 1 else none := ixN_nat n 1
@[simp] theorem cutP_t (lo hi : Option Int) (xs : List P) : cutP lo hi (.tuple xs) = some (.tuple (cutL xs lo hi)) := rfl
@[simp] theorem cutP_l (lo hi : Option Int) (xs : List P) : cutP lo hi (.list xs) = some (.list (cutL xs lo hi)) := rfl
@[simp] theorem revP_t (xs : List P) : revP (.tuple xs) = some (.tuple xs.reverse) := rfl
@[simp] theorem revP_l (xs : List P) : revP (.list xs) = some (.list xs.reverse) := rfl
theorem cutL_to {α : Type} (xs : List α) (n : Nat) : cutL xs none (some (n : Int)) = xs.take n := by
  unfold cutL
  rw [HT.sIx_none, HT.sIx_nat, List.drop_zero, Nat.sub_zero, Nat.min_comm]
  by_cases h : n ≤ xs.length
  · rw [Nat.min_eq_right h]
  · rw [Nat.min_eq_left (by omega), List.take_of_length_le (Nat.le_refl _), List.take_of_length_le (by omega)]
theorem cutL_from {α : Type} (xs : List α) (n : Nat) : cutL xs (some (n : Int)) none = xs.drop n := by
  unfold cutL
  rw [HT.sIx_none, HT.sIx_nat]
  by_cases h : n ≤ xs.length
  · rw [Nat.min_eq_left h, List.take_of_length_le (by rw [List.length_drop]; omega)]
  · rw [Nat.min_eq_right (by omega), List.drop_eq_nil_of_le (Nat.le_refl _), List.drop_eq_nil_of_le (by omega)]
    simp
@[simp] theorem cutL_toC {α : Type} (xs : List α) (n : Nat) : cutL xs none (some (n : Int)) = xs.take n := cutL_to xs n
@[simp] theorem cutL_fromC {α : Type} (xs : List α) (n : Nat) : cutL xs (some (n : Int)) none = xs.drop n := cutL_from xs n
@[simp] theorem cutL_fromS {α : Type} (xs : List α) (n : Nat) : cutL xs (some ((n : Int) + 1)) none = xs.drop (n + 1) := cutL_from xs (n + 1)
@[simp] theorem cutL_to1 {α : Type} (xs : List α) : cutL xs none (some 1) = xs.take 1 := cutL_to xs 1
@[simp] theorem cutL_from1 {α : Type} (xs : List α) : cutL xs (some 1) none = xs.drop 1 := cutL_from xs 1
theorem smallR_of {i : Int} (h : -1000000000000 ≤ i ∧ i ≤ 1000000000000) : smallR i = true := by
  unfold smallR
  simp [h.1, h.2]
@[simp] theorem smallR_0 : smallR 0 = true := rfl
theorem smallI_of {i : Int} (h : -18446744073709551616 < i ∧ i < 18446744073709551616) : smallI i = true := by
  unfold smallI
  simp [h.1, h.2]
theorem rngL_0 (n : Nat) : rngL 0 (n : Int) = (List.range n).map fun (i : Nat) => D.d (.int (i : Int)) := by
  unfold rngL
  rw [Int.sub_zero, Int.toNat_natCast]
  simp only [Int.zero_add]
theorem enumL_eq : ∀ (xs : List P) (n : Nat), enumL n xs = (List.range xs.length).filterMap fun i => (xs[i]?).map fun x => D.d (.tuple [.int ((n + i : Nat) : Int), x])
  | [], n => rfl
  | x :: xs, n => by
    unfold enumL
    rw [enumL_eq xs (n + 1), List.length_cons, List.range_succ_eq_map, List.filterMap_cons]
    simp only [List.getElem?_cons_zero, Option.map_some, List.filterMap_map]
    congr 1
    congr 1
    funext i
    simp [Function.comp]
    congr 1
    funext y
    congr 4
    omega
/-- forL over a range told by an accumulator -/
theorem forL_map {α : Type} {tg : Tg} {b : Env → SR} {enc : α → D} : ∀ (xs : List α) (ρ : Env) (Iv : List α → Env → Prop), Iv [] ρ → (∀ done x rest ρ, xs = done ++ x :: rest → Iv done ρ → ∃ ρ1, setTg tg (enc x) ρ = some ρ1 ∧ ∃ ρ2, (b ρ1 = .nx ρ2 ∨ b ρ1 = .ct ρ2) ∧ Iv (done ++ [x]) ρ2) →
    ∃ ρ', forL tg b (xs.map enc) ρ = .nx ρ' ∧ Iv xs ρ'
  | [], ρ, Iv, h0, _ => ⟨ρ, rfl, h0⟩
  | x :: xs, ρ, Iv, h0, hs => by
    obtain ⟨ρ1, h1, ρ2, h2, h3⟩ := hs [] x xs ρ rfl h0
    obtain ⟨ρ', h4, h5⟩ := forL_map (tg := tg) (b := b) (enc := enc) xs ρ2 (fun d ρ => Iv (x :: d) ρ) h3 fun done y rest ρ e hi => by
      obtain ⟨a, ha, c, hc, hd⟩ := hs (x :: done) y rest ρ (by rw [e]; rfl) hi
      exact ⟨a, ha, c, hc, hd⟩
    refine ⟨ρ', ?_, h5⟩
    rw [List.map_cons]
    unfold forL
    rw [h1]
    simp only
    rcases h2 with h2 | h2
    · rw [h2]; exact h4
    · rw [h2]; exact h4
theorem range_split {n : Nat} {done rest : List Nat} {x : Nat} (h : List.range n = done ++ x :: rest) : x = done.length ∧ x < n := by
  have h1 : (List.range n)[done.length]? = some x := by rw [h]; simp
  rw [List.getElem?_eq_some_iff] at h1
  obtain ⟨hl, h2⟩ := h1
  rw [List.getElem_range] at h2
  rw [List.length_range] at hl
  omega
/-- a slot that may be stored -/
def FreeS (s : Sl) : Prop := s = .un ∨ (∃ v, s = .val v) ∨ ∃ v, s = .own false v
theorem enumL_zip : ∀ (xs : List P) (n : Nat), enumL n xs = (xs.zipIdx n).map fun p => D.d (.tuple [.int (p.2 : Int), p.1])
  | [], n => rfl
  | x :: xs, n => by
    unfold enumL
    rw [enumL_zip xs (n + 1), List.zipIdx_cons, List.map_cons]
theorem enumL_map {α : Type} (f : α → P) (xs : List α) : enumL 0 (xs.map f) = xs.zipIdx.map fun p => D.d (.tuple [.int (p.2 : Int), f p.1]) := by
  rw [enumL_zip, List.zipIdx_map, List.map_map]
  rfl
theorem rngL_zip {α : Type} (xs : List α) : rngL 0 (xs.length : Int) = xs.zipIdx.map fun p => D.d (.int (p.2 : Int)) := by
  rw [rngL_0]
  have : List.range xs.length = xs.zipIdx.map Prod.snd := by rw [List.zipIdx_map_snd, List.range_eq_range']
  rw [this, List.map_map]
  rfl
theorem zip_split {α : Type} {xs : List α} {done rest : List (α × Nat)} {x : α} {i : Nat} (h : xs.zipIdx = done ++ (x, i) :: rest) : i = done.length ∧ xs[i]? = some x ∧ i < xs.length := by
  have h1 : xs.zipIdx[done.length]? = some (x, i) := by rw [h]; simp
  rw [List.getElem?_zipIdx] at h1
  obtain ⟨y, h2, h3⟩ := Option.map_eq_some_iff.mp h1
  simp at h3
  obtain ⟨rfl, rfl⟩ := h3
  exact ⟨rfl, h2, (List.getElem?_eq_some_iff.mp h2).1⟩
theorem zip_mem {α : Type} {xs : List α} {p : α × Nat} (h : p ∈ xs.zipIdx) : xs[p.2]? = some p.1 ∧ p.2 < xs.length := by
  have := List.mem_zipIdx_iff_getElem?.mp h
  exact ⟨this, (List.getElem?_eq_some_iff.mp this).1⟩
end Mp

set_option maxRecDepth 100000
set_option maxHeartbeats 400000
/-! Lb1: lists, changes, histories: what the module's defs say of any data. -/
namespace Lb
open Mp PySem L2
def b0 : Fd := ⟨3, 3, (.cons (.ret (.bop false (.cons (.bi (.isi .tuple) (.var 0 "value")) (.cons (.chain .le .le (.var 1 "low") (.bi .len (.var 0 "value")) (.var 2 "high")) .nil)))) .nil)⟩
def b1 : Fd := ⟨3, 3, (.cons (.ret (.bop false (.cons (.bi (.isi .int) (.var 0 "value")) (.cons (.notE (.bi (.isi .bool) (.var 0 "value"))) (.cons (.chain .le .le (.var 1 "low") (.var 0 "value") (.var 2 "high")) .nil))))) .nil)⟩
def b2 : Fd := ⟨1, 1, (.cons (.ret (.bop false (.cons (.call 0 (.cons (.var 0 "value") (.cons (.cst (.int 2)) (.cons (.cst (.int 2)) .nil)))) (.cons (.call 1 (.cons (.ix (.var 0 "value") (.glob "KEY" (.int 0))) (.cons (.cst (.int 0)) (.cons (.bin .sub (.glob "KEYS" (.int 10)) (.cst (.int 1))) .nil)))) (.cons (.call 1 (.cons (.ix (.var 0 "value") (.glob "RANK" (.int 1))) (.cons (.cst (.int 0)) (.cons (.bin .sub (.glob "RANKS" (.int 6)) (.cst (.int 1))) .nil)))) .nil))))) .nil)⟩
def b3 : Fd := ⟨1, 4, (.cons (.ife (.bop true (.cons (.notE (.call 0 (.cons (.var 0 "value") (.cons (.cst (.int 0)) (.cons (.glob "KEYS" (.int 10)) .nil))))) (.cons (.notE (.bi .all (.comp [("own", 1)] (.nm 1 "own") (.seq (.var 0 "value")) .no (.call 2 (.cons (.var 1 "own") .nil))))) .nil))) (.cons (.ret (.cst (.bool false))) .nil) .nil) (.cons (.ret (.bi .all (.comp [("one", 2), ("other", 3)] (.tp [(2, "one"), (3, "other")]) (.zip (.var 0 "value") (.sl (.var 0 "value") (.yes (.cst (.int 1))) .no)) .no (.cmp .lt (.ix (.var 2 "one") (.glob "KEY" (.int 0))) (.ix (.var 3 "other") (.glob "KEY" (.int 0))))))) .nil))⟩
def b4 : Fd := ⟨1, 1, (.cons (.ife (.bop true (.cons (.notE (.call 0 (.cons (.var 0 "value") (.cons (.cst (.int 2)) (.cons (.cst (.int 3)) .nil))))) (.cons (.notE (.bi (.isi .str) (.ix (.var 0 "value") (.cst (.int 0))))) .nil))) (.cons (.ret (.cst (.bool false))) .nil) .nil) (.cons (.ife (.cmp .eq (.ix (.var 0 "value") (.cst (.int 0))) (.cst (.str "put"))) (.cons (.ret (.bop false (.cons (.cmp .eq (.bi .len (.var 0 "value")) (.cst (.int 3))) (.cons (.call 2 (.cons (.sl (.var 0 "value") (.yes (.cst (.int 1))) .no) .nil)) .nil)))) .nil) .nil) (.cons (.ret (.bop false (.cons (.cmp .eq (.ix (.var 0 "value") (.cst (.int 0))) (.cst (.str "drop"))) (.cons (.cmp .eq (.bi .len (.var 0 "value")) (.cst (.int 2))) (.cons (.call 1 (.cons (.ix (.var 0 "value") (.cst (.int 1))) (.cons (.cst (.int 0)) (.cons (.bin .sub (.glob "KEYS" (.int 10)) (.cst (.int 1))) .nil)))) .nil))))) .nil)))⟩
def b5 : Fd := ⟨1, 1, (.cons (.ife (.notE (.call 3 (.cons (.var 0 "value") .nil))) (.cons (.raise 0) .nil) .nil) .nil)⟩
def b6 : Fd := ⟨1, 1, (.cons (.ret (.call 3 (.cons (.var 0 "value") .nil))) .nil)⟩
def b7 : Fd := ⟨1, 1, (.cons (.ret (.bop true (.cons (.bop false (.cons (.cmp .eq (.var 0 "value") (.glob "PAGE" (.tuple [(.str "page")]))) (.cons (.bi (.isi .tuple) (.var 0 "value")) .nil))) (.cons (.call 4 (.cons (.var 0 "value") .nil)) .nil)))) .nil)⟩
def b8 : Fd := ⟨1, 2, (.cons (.ret (.bop false (.cons (.call 0 (.cons (.var 0 "value") (.cons (.cst (.int 0)) (.cons (.glob "STEPS" (.int 60)) .nil)))) (.cons (.bi .all (.comp [("own", 1)] (.nm 1 "own") (.seq (.var 0 "value")) .no (.call 7 (.cons (.var 1 "own") .nil)))) .nil)))) .nil)⟩
def b9 : Fd := ⟨1, 1, (.cons (.ret (.call 8 (.cons (.var 0 "value") .nil))) .nil)⟩

section
variable {T : Nat → Option Fd}
def isTup (v : P) (lo hi : Int) : Bool := match v with
  | .tuple xs => decide (lo ≤ xs.length) && decide ((xs.length : Int) ≤ hi)
  | _ => false
theorem s0 (h0 : T 0 = some b0) (k : Nat) (v : P) (lo hi : Int) : runs T (k+1) 0 [.sh (.d v), .sh (.d (.int lo)), .sh (.d (.int hi))] = .ok (.d (.bool (isTup v lo hi))) false [none, none, none] := by
  rw [runs_eq h0]
  cases v <;> simp [b0, isTup]
def fitsW (v : P) (lo hi : Int) : Bool := match v with
  | .int i => decide (lo ≤ i) && decide (i ≤ hi)
  | _ => false
theorem s1 (h1 : T 1 = some b1) (k : Nat) (v : P) (lo hi : Int) : runs T (k+1) 1 [.sh (.d v), .sh (.d (.int lo)), .sh (.d (.int hi))] = .ok (.d (.bool (fitsW v lo hi))) false [none, none, none] := by
  rw [runs_eq h1]
  cases v <;> simp [b1, fitsW]
def fitsRow (v : P) : Bool := match v with
  | .tuple [a, b] => fitsW a 0 9 && fitsW b 0 5
  | _ => false
theorem s2 (h0 : T 0 = some b0) (h1 : T 1 = some b1) (h2 : T 2 = some b2) (k : Nat) (v : P) : runs T (k+2) 2 [.sh (.d v)] = .ok (.d (.bool (fitsRow v))) false [none] := by
  rw [runs_eq h2]
  rcases v with _ | _ | _ | _ | _ | xs | _ <;> try (simp [b2, s0 h0, s1 h1, isTup, fitsRow]; done)
  rcases xs with _ | ⟨a, _ | ⟨b, _ | ⟨c, r⟩⟩⟩ <;> simp [b2, s0 h0, s1 h1, isTup, fitsRow]
  rw [if_pos (by omega)]
  intro; omega
def key0 : P → Int
  | .tuple (.int k :: _) => k
  | _ => 0
def keysUp (xs : List P) : Bool := (xs.zip (xs.drop 1)).all fun p => decide (key0 p.1 < key0 p.2)
def fitsList (v : P) : Bool := match v with
  | .tuple xs => decide (xs.length ≤ 10) && (xs.all fitsRow && keysUp xs)
  | _ => false
theorem zipL_eq : ∀ xs ys : List P, zipL xs ys = (xs.zip ys).map fun p => D.d (.tuple [p.1, p.2])
  | [], _ => by simp [zipL]
  | _ :: _, [] => by simp [zipL]
  | x :: xs, y :: ys => by simp [zipL, zipL_eq xs ys]
theorem fitsRow_ok {v : P} (h : fitsRow v = true) : ∃ a b : Int, v = .tuple [.int a, .int b] := by
  unfold fitsRow at h
  split at h
  · rename_i a b
    cases a <;> simp [fitsW] at h
    cases b <;> simp at h
    exact ⟨_, _, rfl⟩
  · cases h
theorem s3 (h0 : T 0 = some b0) (h1 : T 1 = some b1) (h2 : T 2 = some b2) (h3 : T 3 = some b3) (k : Nat) (v : P) : runs T (k+3) 3 [.sh (.d v)] = .ok (.d (.bool (fitsList v))) false [none] := by
  rw [runs_eq h3]
  rcases v with _ | _ | _ | _ | _ | xs | _ <;> try (simp [b3, s0 h0, isTup, fitsList]; done)
  by_cases h10 : xs.length ≤ 10
  · by_cases ha : xs.all fitsRow = true
    · have h10' : ¬ (10 : Int) < xs.length := by omega
      have h10'' : (xs.length : Int) ≤ 10 := by omega
      simp [b3, s0 h0, isTup, fitsList, h10, ha]
      rw [compE_map D.d (fun x => .bool (fitsRow x)) (fun x hx => by simp [turnOk, s2 h0 h1 h2])]
      have ha' : ∀ x ∈ xs, fitsRow x = true := List.all_eq_true.mp ha
      have hn : ¬ (∃ x, x ∈ xs ∧ fitsRow x = false) := fun ⟨x, hx, e⟩ => by rw [ha' x hx] at e; cases e
      simp [boolsP_map, hn, zipL_eq, h10', h10'']
      rw [compE_map (fun p : P × P => D.d (.tuple [p.1, p.2])) (fun p : P × P => .bool (decide (key0 p.1 < key0 p.2))) (fun p hp => ?_)]
      · simp [boolsP_map, keysUp]
      · obtain ⟨h5, h6⟩ := List.of_mem_zip hp
        obtain ⟨a, b, e1⟩ := fitsRow_ok (ha' _ h5)
        obtain ⟨c, d, e2⟩ := fitsRow_ok (ha' _ (List.mem_of_mem_tail h6))
        simp [turnOk, e1, e2, key0]
    · have h10' : ¬ (10 : Int) < xs.length := by omega
      have h10'' : (xs.length : Int) ≤ 10 := by omega
      simp [b3, s0 h0, isTup, fitsList, h10, ha]
      have hn : ∃ x, x ∈ xs ∧ fitsRow x = false := by simpa using ha
      rw [compE_map D.d (fun x => .bool (fitsRow x)) (fun x hx => by simp [turnOk, s2 h0 h1 h2])]
      simp [boolsP_map, hn, h10', h10'']
  · have : ¬ ((xs.length : Int) ≤ 10) := by omega
    simp [b3, s0 h0, isTup, fitsList, h10, this]
abbrev sPut : Str := "put"
abbrev sDrop : Str := "drop"
abbrev sPage : Str := "page"
def fitsChange : P → Bool
  | .tuple [.str s, a] => if s = sPut then false else (s == sDrop) && fitsW a 0 9
  | .tuple [.str s, a, b] => if s = sPut then fitsRow (.tuple [a, b]) else false
  | _ => false
theorem s4 (h0 : T 0 = some b0) (h1 : T 1 = some b1) (h2 : T 2 = some b2) (h4 : T 4 = some b4) (k : Nat) (v : P) : runs T (k+3) 4 [.sh (.d v)] = .ok (.d (.bool (fitsChange v))) false [none] := by
  rw [runs_eq h4]
  rcases v with _ | _ | _ | _ | _ | xs | _ <;> try (simp [b4, s0 h0, isTup, fitsChange]; done)
  rcases xs with _ | ⟨a, _ | ⟨b, _ | ⟨c, _ | ⟨d, r⟩⟩⟩⟩ <;> try (simp [b4, s0 h0, isTup, fitsChange]; done)
  · cases a <;> try (simp [b4, s0 h0, isTup, fitsChange]; done)
    rename_i s
    by_cases hp : s = sPut
    · simp [b4, s0 h0, s1 h1, s2 h0 h1 h2, isTup, fitsChange, hp]
    · by_cases hd : s = sDrop
      · simp [b4, s0 h0, s1 h1, s2 h0 h1 h2, isTup, fitsChange, hp, hd]
      · simp [b4, s0 h0, s1 h1, s2 h0 h1 h2, isTup, fitsChange, hp, hd]
  · cases a <;> try (simp [b4, s0 h0, isTup, fitsChange]; done)
    rename_i s
    by_cases hp : s = sPut
    · simp [b4, s0 h0, s1 h1, s2 h0 h1 h2, isTup, fitsChange, hp]
    · by_cases hd : s = sDrop
      · simp [b4, s0 h0, s1 h1, s2 h0 h1 h2, isTup, fitsChange, hp, hd]
      · simp [b4, s0 h0, s1 h1, s2 h0 h1 h2, isTup, fitsChange, hp, hd]
  · simp [b4, s0 h0, isTup, fitsChange]
    rw [if_pos (by intros; omega)]
    simp
theorem s5 (h0 : T 0 = some b0) (h1 : T 1 = some b1) (h2 : T 2 = some b2) (h3 : T 3 = some b3) (h5 : T 5 = some b5) (k : Nat) (v : P) : runs T (k+4) 5 [.sh (.d v)] = if fitsList v then .ok (.d .none) false [none] else .ex ⟨0, []⟩ [none] := by
  rw [runs_eq h5]
  cases h : fitsList v <;> simp [b5, s3 h0 h1 h2 h3, h]
theorem s6 (h0 : T 0 = some b0) (h1 : T 1 = some b1) (h2 : T 2 = some b2) (h3 : T 3 = some b3) (h6 : T 6 = some b6) (k : Nat) (v : P) : runs T (k+4) 6 [.sh (.d v)] = .ok (.d (.bool (fitsList v))) false [none] := by
  rw [runs_eq h6]
  simp [b6, s3 h0 h1 h2 h3]
def fitsStep (v : P) : Bool := (PyData.eqv v (.tuple [.str sPage]) && isiP .tuple v) || fitsChange v
theorem eqP_page (v : P) : eqP v (.tuple [.str sPage]) = some (PyData.eqv v (.tuple [.str sPage])) := by
  unfold eqP
  rw [if_pos]
  have : (PyData.tuple [.str sPage]).depth ≤ 64 := by decide
  exact Nat.le_trans (Nat.min_le_right _ _) this
theorem s7 (h0 : T 0 = some b0) (h1 : T 1 = some b1) (h2 : T 2 = some b2) (h4 : T 4 = some b4) (h7 : T 7 = some b7) (k : Nat) (v : P) : runs T (k+4) 7 [.sh (.d v)] = .ok (.d (.bool (fitsStep v))) false [none] := by
  rw [runs_eq h7]
  simp [b7, s4 h0 h1 h2 h4, eqP_page, fitsStep]
  cases PyData.eqv v (.tuple [.str sPage]) <;> cases isiP .tuple v <;> simp
def fitsHist (v : P) : Bool := match v with
  | .tuple xs => decide (xs.length ≤ 60) && xs.all fitsStep
  | _ => false
theorem s8 (h0 : T 0 = some b0) (h1 : T 1 = some b1) (h2 : T 2 = some b2) (h4 : T 4 = some b4) (h7 : T 7 = some b7) (h8 : T 8 = some b8) (k : Nat) (v : P) : runs T (k+5) 8 [.sh (.d v)] = .ok (.d (.bool (fitsHist v))) false [none] := by
  rw [runs_eq h8]
  rcases v with _ | _ | _ | _ | _ | xs | _ <;> try (simp [b8, s0 h0, isTup, fitsHist]; done)
  simp [b8, s0 h0, isTup, fitsHist]
  rw [compE_map D.d (fun x => .bool (fitsStep x)) (fun x hx => by simp [turnOk, s7 h0 h1 h2 h4 h7])]
  simp [boolsP_map]
  by_cases h : xs.length ≤ 60
  · simp [h, show ¬ (60 : Int) < xs.length by omega]
  · simp [h, show (60 : Int) < xs.length by omega, show ¬ (xs.length : Int) ≤ 60 by omega]
theorem s9 (h0 : T 0 = some b0) (h1 : T 1 = some b1) (h2 : T 2 = some b2) (h4 : T 4 = some b4) (h7 : T 7 = some b7) (h8 : T 8 = some b8) (h9 : T 9 = some b9) (k : Nat) (v : P) : runs T (k+6) 9 [.sh (.d v)] = .ok (.d (.bool (fitsHist v))) false [none] := by
  rw [runs_eq h9]
  simp [b9, s8 h0 h1 h2 h4 h7 h8]
end
end Lb

set_option maxRecDepth 100000
set_option maxHeartbeats 400000
/-! Lb2: what the laws draw by, and how they compare. -/
namespace Lb
open Mp PySem L2
def bCup (c0 c1 c2 c3 c4 : Int) : Fd := ⟨1, 2, (.cons (.set 1 "cell" (.bi .abs (.ix (.bin .add (.bi .list (.var 0 "script")) (.lst (.cons (.cst (.int 0)) .nil))) (.cst (.int 0))))) (.cons (.ret (.lst (.cons (.ife (.cmp .ge (.var 1 "cell") (.bin .pow (.cst (.int 10)) (.cst (.int 18)))) (.bin .fdiv (.var 1 "cell") (.cst (.int c0))) (.cst (.int 0))) (.cons (.bin .add (.bin .mod (.bi .int (.bin .add (.bin .mul (.var 1 "cell") (.cst (.int c1))) (.cst (.int c2)))) (.cst (.int c3))) (.cst (.int c4))) .nil)))) .nil))⟩
def bRoll (c0 c1 c2 c3 c4 c5 : Int) : Fd := ⟨2, 4, (.cons (.ife (.cmp .gt (.ix (.var 0 "cup") (.cst (.int 0))) (.cst (.int 0))) (.cons (.set 2 "found" (.bin .mod (.bi .int (.ix (.var 0 "cup") (.cst (.int 0)))) (.var 1 "many"))) (.cons (.setIx 0 "cup" (.cst (.int 0)) (.bin .fdiv (.ix (.var 0 "cup") (.cst (.int 0))) (.var 1 "many"))) (.cons (.ret (.var 2 "found")) .nil))) .nil) (.cons (.setIx 0 "cup" (.cst (.int 1)) (.bin .mod (.bi .int (.bin .add (.bin .mul (.ix (.var 0 "cup") (.cst (.int 1))) (.cst (.int c0))) (.cst (.int c1)))) (.cst (.int c2)))) (.cons (.set 3 "deep" (.bin .mod (.bi .int (.bin .mul (.ix (.var 0 "cup") (.cst (.int 1))) (.bin .add (.ix (.var 0 "cup") (.cst (.int 1))) (.cst (.int c3))))) (.cst (.int c4)))) (.cons (.ret (.bin .mod (.bi .int (.bin .fdiv (.var 3 "deep") (.cst (.int c5)))) (.var 1 "many"))) .nil))))⟩
def b19 : Fd := ⟨2, 2, (.cons (.ret (.ix (.var 1 "things") (.call 18 (.cons (.var 0 "cup") (.cons (.bi .len (.var 1 "things")) .nil))))) .nil)⟩
def b20 : Fd := ⟨2, 3, (.cons (.ife (.bi (.isi .tuple) (.var 1 "due")) (.cons (.ife (.bop true (.cons (.notE (.bi (.isi .tuple) (.var 0 "told"))) (.cons (.cmp .ne (.bi .len (.var 0 "told")) (.bi .len (.var 1 "due"))) .nil))) (.cons (.ret (.cst (.bool false))) .nil) .nil) (.cons (.ret (.bi .all (.comp [("at", 2)] (.nm 2 "at") (.rng (.bi .len (.var 1 "due"))) .no (.call 20 (.cons (.ix (.var 0 "told") (.var 2 "at")) (.cons (.ix (.var 1 "due") (.var 2 "at")) .nil)))))) .nil)) .nil) (.cons (.ife (.cmp .is (.var 1 "due") (.cst .none)) (.cons (.ret (.cmp .is (.var 0 "told") (.cst .none))) .nil) .nil) (.cons (.ife (.bi (.isi .bool) (.var 1 "due")) (.cons (.ret (.ife (.var 1 "due") (.cmp .is (.var 0 "told") (.cst (.bool true))) (.cmp .is (.var 0 "told") (.cst (.bool false))))) .nil) .nil) (.cons (.ife (.bi (.isi .int) (.var 1 "due")) (.cons (.ret (.bop false (.cons (.bi (.isi .int) (.var 0 "told")) (.cons (.notE (.bi (.isi .bool) (.var 0 "told"))) (.cons (.cmp .eq (.bi .int (.var 0 "told")) (.var 1 "due")) .nil))))) .nil) .nil) (.cons (.ret (.bop false (.cons (.bi (.isi .str) (.var 0 "told")) (.cons (.cmp .eq (.bi .str (.var 0 "told")) (.var 1 "due")) .nil)))) .nil)))))⟩
def b21 : Fd := ⟨2, 5, (.cons (.setP [(2, "high"), (3, "found")] (.cons (.call 19 (.cons (.var 0 "cup") (.cons (.lst (.cons (.cst (.int 2)) (.cons (.cst (.int 3)) (.cons (.cst (.int 6)) .nil)))) .nil))) (.cons (.lst .nil) .nil))) (.frz 2 (.cons (.forS (.nm 4 "key") (.rng (.cst (.int 10))) (.cons (.ife (.bop false (.cons (.cmp .lt (.bi .len (.var 3 "found")) (.var 1 "most")) (.cons (.cmp .eq (.call 18 (.cons (.var 0 "cup") (.cons (.cst (.int 2)) .nil))) (.cst (.int 0))) .nil))) (.cons (.app 3 "found" (.tup (.cons (.var 4 "key") (.cons (.call 18 (.cons (.var 0 "cup") (.cons (.var 2 "high") .nil))) .nil)))) .nil) .nil) .nil)) (.frz 3 (.cons (.ret (.bi .tuple (.var 3 "found"))) .nil)))))⟩
def b22 : Fd := ⟨1, 1, (.cons (.ife (.cmp .eq (.call 18 (.cons (.var 0 "cup") (.cons (.cst (.int 3)) .nil))) (.cst (.int 0))) (.cons (.ret (.tup (.cons (.cst (.str "drop")) (.cons (.call 18 (.cons (.var 0 "cup") (.cons (.cst (.int 10)) .nil))) .nil)))) .nil) .nil) (.cons (.ret (.tup (.cons (.cst (.str "put")) (.cons (.call 18 (.cons (.var 0 "cup") (.cons (.cst (.int 10)) .nil))) (.cons (.call 18 (.cons (.var 0 "cup") (.cons (.call 19 (.cons (.var 0 "cup") (.cons (.lst (.cons (.cst (.int 2)) (.cons (.cst (.int 3)) (.cons (.cst (.int 6)) .nil)))) .nil))) .nil))) .nil))))) .nil))⟩
def b23 : Fd := ⟨2, 3, (.cons (.ret (.bi .tuple (.comp [("step", 2)] (.nm 2 "step") (.rng (.var 1 "many")) .no (.ife (.cmp .eq (.call 18 (.cons (.var 0 "cup") (.cons (.cst (.int 2)) .nil))) (.cst (.int 0))) (.tup (.cons (.cst (.str "page")) .nil)) (.call 22 (.cons (.var 0 "cup") .nil)))))) .nil)⟩

section
variable {T : Nat → Option Fd}
/-- the drawer's two numbers -/
abbrev cup (a b : Int) : D := .d (.list [.int a, .int b])
theorem sRoll {c0 c1 c2 c3 c4 c5 : Int} {f : Nat} (h : T f = some (bRoll c0 c1 c2 c3 c4 c5)) (hc : (0 < c2 ∧ c2 ≤ 4294967296) ∧ (0 < c4) ∧ (0 < c5 ∧ c5 < 1073741824) ∧ (0 ≤ c0 ∧ c0 ≤ 4294967296) ∧ 0 ≤ c1 ∧ 0 ≤ c3) (k : Nat) (a b m : Int) (hm : 0 < m ∧ m < 1073741824) (hb : 0 ≤ b ∧ b ≤ 4294967296) :
    ∃ a' b' r, runs T (k+1) f [.ln (cup a b), .sh (.d (.int m))] = .ok (.d (.int r)) false [some (cup a' b'), none] ∧ 0 ≤ r ∧ r < m ∧ 0 ≤ b' ∧ b' ≤ 4294967296 := by
  rw [runs_eq h]
  by_cases ha : 0 < a
  · refine ⟨a / m, b, a % m, ?_, Int.emod_nonneg _ (by omega), Int.emod_lt_of_pos _ (by omega), hb⟩
    simp [bRoll, ha, hm]
  · have hs1 : smallI b = true := smallI_of (by omega)
    have hn : 0 ≤ (b * c0 + c1) % c2 := Int.emod_nonneg _ (by omega)
    have hl : (b * c0 + c1) % c2 < c2 := Int.emod_lt_of_pos _ (by omega)
    have hs2 : smallI ((b * c0 + c1) % c2) = true := smallI_of (by omega)
    refine ⟨a, (b * c0 + c1) % c2, ((b * c0 + c1) % c2 * ((b * c0 + c1) % c2 + c3) % c4 / c5) % m, ?_, Int.emod_nonneg _ (by omega), Int.emod_lt_of_pos _ (by omega), hn, by omega⟩
    simp [bRoll, ha, hm, hs1, hs2, hc]
/-- things of a depth: what _law_same compares -/
def pl : Nat → P → Prop
  | _, .none => True
  | _, .bool _ => True
  | _, .int _ => True
  | _, .str _ => True
  | n + 1, .tuple xs => xs.length ≤ 16777216 ∧ ∀ x ∈ xs, pl n x
  | _, _ => False
theorem same_refl (h : T 20 = some b20) : ∀ (n k : Nat) (x : P), pl n x → runs T (k+n+1) 20 [.sh (.d x), .sh (.d x)] = .ok (.d (.bool true)) false [none, none] := by
  intro n
  induction n with
  | zero =>
    intro k x hx
    rw [runs_eq h]
    cases x <;> first | (simp [pl] at hx; done) | (simp [b20]; done) | (rename_i b; cases b <;> simp [b20])
  | succ n ih =>
    intro k x hx
    rw [show k + (n + 1) + 1 = (k + n + 1) + 1 by omega, runs_eq h]
    cases x <;> first | (simp [pl] at hx; done) | (simp [b20]; done) | (rename_i b; cases b <;> simp [b20]; done) | skip
    rename_i xs
    obtain ⟨hz, hx⟩ := hx
    have hr : smallR (xs.length : Int) = true := smallR_of (by omega)
    simp [b20, hr, rngL_0, hz]
    rw [compE_map (fun i : Nat => D.d (.int (i : Int))) (fun _ => .bool true) (fun i hi => ?_)]
    · simp [boolsP_map]
    · have hi : i < xs.length := List.mem_range.mp hi
      simp [turnOk, List.getElem?_eq_getElem hi, ih k _ (hx _ (List.getElem_mem hi))]
/-- one of the things -/
theorem sSome {c0 c1 c2 c3 c4 c5 : Int} (h19 : T 19 = some b19) (h : T 18 = some (bRoll c0 c1 c2 c3 c4 c5)) (hc : (0 < c2 ∧ c2 ≤ 4294967296) ∧ (0 < c4) ∧ (0 < c5 ∧ c5 < 1073741824) ∧ (0 ≤ c0 ∧ c0 ≤ 4294967296) ∧ 0 ≤ c1 ∧ 0 ≤ c3) (k : Nat) (a b : Int) (xs : List P) (hx : xs ≠ []) (hz : xs.length < 1073741824) (hb : 0 ≤ b ∧ b ≤ 4294967296) :
    ∃ a' b' x, runs T (k+2) 19 [.ln (cup a b), .sh (.d (.list xs))] = .ok (.d x) false [some (cup a' b'), none] ∧ x ∈ xs ∧ 0 ≤ b' ∧ b' ≤ 4294967296 := by
  have hl : 0 < xs.length := List.length_pos_iff.mpr hx
  obtain ⟨a', b', r, e, h1, h2, h3, h4⟩ := sRoll h hc k a b (xs.length : Int) (by omega) hb
  obtain ⟨n, rfl⟩ : ∃ n : Nat, r = n := ⟨r.toNat, by omega⟩
  have hlt : n < xs.length := by omega
  refine ⟨a', b', xs[n], ?_, List.getElem_mem hlt, h3, h4⟩
  rw [runs_eq h19]
  simp [b19, e, List.getElem?_eq_getElem hlt]
/-- rows, in the order of their keys -/
def eR (p : Int × Int) : P := .tuple [.int p.1, .int p.2]
def eRs (rs : List (Int × Int)) : P := .tuple (rs.map eR)
def Rw (p : Int × Int) : Prop := 0 ≤ p.1 ∧ p.1 ≤ 9 ∧ 0 ≤ p.2 ∧ p.2 ≤ 5
/-- a list of rows as the module wants it -/
structure RowsOk (rs : List (Int × Int)) : Prop where
  len : rs.length ≤ 10
  all : ∀ p ∈ rs, Rw p
  up : rs.Pairwise fun p q => p.1 < q.1
theorem fitsRow_eR {p : Int × Int} (h : Rw p) : fitsRow (eR p) = true := by
  obtain ⟨h1, h2, h3, h4⟩ := h
  simp [eR, fitsRow, fitsW, h1, h2, h3, h4]
theorem fitsList_eRs {rs : List (Int × Int)} (h : RowsOk rs) : fitsList (eRs rs) = true := by
  have h1 := h.len
  unfold eRs fitsList
  simp only [List.length_map, Bool.and_eq_true, decide_eq_true_eq]
  refine ⟨h1, ?_, ?_⟩
  · rw [List.all_eq_true]
    intro v hv
    obtain ⟨p, hp, rfl⟩ := List.mem_map.mp hv
    exact fitsRow_eR (h.all p hp)
  · have hu := h.up
    unfold keysUp
    clear h h1
    induction rs with
    | nil => rfl
    | cons p rs ih =>
      cases rs with
      | nil => rfl
      | cons q rs =>
        have h2 := List.pairwise_cons.mp hu
        have h3 := ih h2.2
        have h4 := h2.1 q List.mem_cons_self
        simp only [List.map_cons, List.drop_succ_cons, List.drop_zero, List.zip_cons_cons, List.all_cons, Bool.and_eq_true, decide_eq_true_eq] at h3 ⊢
        exact ⟨h4, h3⟩
/-- rows that _law_list draws: among the keys below n -/
structure Drawn (n : Nat) (rs : List (Int × Int)) : Prop where
  all : ∀ p ∈ rs, Rw p ∧ p.1 < n
  up : rs.Pairwise fun p q => p.1 < q.1
  len : rs.length ≤ n
def HC (c0 c1 c2 c3 c4 c5 : Int) : Prop := (0 < c2 ∧ c2 ≤ 4294967296) ∧ (0 < c4) ∧ (0 < c5 ∧ c5 < 1073741824) ∧ (0 ≤ c0 ∧ c0 ≤ 4294967296) ∧ 0 ≤ c1 ∧ 0 ≤ c3
theorem Drawn.snoc {n : Nat} {rs : List (Int × Int)} (h : Drawn n rs) (hn : n ≤ 9) {r : Int} (hr : 0 ≤ r ∧ r ≤ 5) : Drawn (n + 1) (rs ++ [((n : Int), r)]) := by
  refine ⟨fun p hp => ?_, ?_, ?_⟩
  · rcases List.mem_append.mp hp with hp | hp
    · obtain ⟨h1, h2⟩ := h.all p hp
      exact ⟨h1, by omega⟩
    · have := List.mem_singleton.mp hp
      subst this
      exact ⟨⟨by simp, by simp; omega, hr.1, hr.2⟩, by simp; omega⟩
  · rw [List.pairwise_append]
    refine ⟨h.up, List.pairwise_singleton _ _, fun p hp q hq => ?_⟩
    have := List.mem_singleton.mp hq
    subst this
    exact (h.all p hp).2
  · rw [List.length_append, List.length_singleton]
    have := h.len
    omega
theorem Drawn.keep {n : Nat} {rs : List (Int × Int)} (h : Drawn n rs) : Drawn (n + 1) rs := ⟨fun p hp => ⟨(h.all p hp).1, by have := (h.all p hp).2; omega⟩, h.up, by have := h.len; omega⟩
theorem Drawn.ok {rs : List (Int × Int)} (h : Drawn 10 rs) : RowsOk rs := ⟨h.len, fun p hp => (h.all p hp).1, h.up⟩
def IvList (most high : Int) (done : List Nat) (ρ : Mp.Env) : Prop := ∃ a2 b2 rs s4, ρ = [Sl.own true (cup a2 b2), Sl.val (D.d (.int most)), Sl.val (D.d (.int high)), Sl.own false (D.d (.list (rs.map eR))), s4] ∧ FreeS s4 ∧ Drawn done.length rs ∧ 0 ≤ b2 ∧ b2 ≤ 4294967296
theorem sList {c0 c1 c2 c3 c4 c5 : Int} (h21 : T 21 = some b21) (h19 : T 19 = some b19) (h : T 18 = some (bRoll c0 c1 c2 c3 c4 c5)) (hc : HC c0 c1 c2 c3 c4 c5) (k : Nat) (a b most : Int) (hb : 0 ≤ b ∧ b ≤ 4294967296) :
    ∃ a' b' rs, runs T (k+3) 21 [.ln (cup a b), .sh (.d (.int most))] = .ok (.d (eRs rs)) false [some (cup a' b'), none] ∧ RowsOk rs ∧ 0 ≤ b' ∧ b' ≤ 4294967296 := by
  obtain ⟨a1, b1, hi, e, hm, g1, g2⟩ := sSome h19 h hc k a b [.int 2, .int 3, .int 6] (by simp) (by simp) hb
  have e10 : rngL 0 10 = (List.range 10).map (fun i : Nat => D.d (.int (i : Int))) := rngL_0 10
  have s10 : smallR 10 = true := rfl
  obtain ⟨high, rfl, hh⟩ : ∃ high : Int, hi = .int high ∧ (0 < high ∧ high ≤ 6) := by
    simp at hm
    rcases hm with rfl | rfl | rfl <;> exact ⟨_, rfl, by omega⟩
  rw [runs_eq h21]
  simp [b21, e, s10, e10]
  generalize hf : forL _ _ _ _ = z
  have key : ∃ ρ', z = .nx ρ' ∧ IvList most high (List.range 10) ρ' := by
    rw [← hf]
    refine forL_map (enc := fun i : Nat => D.d (.int (i : Int))) (List.range 10) _ (IvList most high) ⟨a1, b1, [], .un, rfl, .inl rfl, ⟨by simp, .nil, by simp⟩, g1, g2⟩ fun done x rest ρ hs hi => ?_
    obtain ⟨a2, b2, rs, s4, rfl, hfree, hd, g3, g4⟩ := hi
    obtain ⟨rfl, hx⟩ := range_split hs
    refine ⟨[Sl.own true (cup a2 b2), Sl.val (D.d (.int most)), Sl.val (D.d (.int high)), Sl.own false (D.d (.list (rs.map eR))), Sl.val (D.d (.int (done.length : Int)))], by rcases hfree with rfl | ⟨v, rfl⟩ | ⟨v, rfl⟩ <;> simp, ?_⟩
    by_cases hm : (rs.length : Int) < most
    · obtain ⟨a3, b3, r, e3, g5, g6, g7, g8⟩ := sRoll h hc (k + 1) a2 b2 2 (by omega) ⟨g3, g4⟩
      by_cases hr : r = 0
      · subst hr
        obtain ⟨a4, b4, q, e4, g9, g10, g11, g12⟩ := sRoll h hc (k + 1) a3 b3 high (by omega) ⟨g7, g8⟩
        have hlen := hd.len
        refine ⟨[Sl.own true (cup a4 b4), Sl.val (D.d (.int most)), Sl.val (D.d (.int high)), Sl.own false (D.d (.list ((rs ++ [((done.length : Int), q)]).map eR))), Sl.val (D.d (.int (done.length : Int)))], .inl ?_, a4, b4, _, _, rfl, .inr (.inl ⟨_, rfl⟩), by rw [List.length_append, List.length_singleton]; exact hd.snoc (by omega) ⟨g9, by omega⟩, g11, g12⟩
        simp [hm, e3, e4, eR, show rs.length < 16777216 by omega]
      · refine ⟨[Sl.own true (cup a3 b3), Sl.val (D.d (.int most)), Sl.val (D.d (.int high)), Sl.own false (D.d (.list (rs.map eR))), Sl.val (D.d (.int (done.length : Int)))], .inl ?_, a3, b3, _, _, rfl, .inr (.inl ⟨_, rfl⟩), by rw [List.length_append, List.length_singleton]; exact hd.keep, g7, g8⟩
        simp [hm, e3, hr]
    · refine ⟨[Sl.own true (cup a2 b2), Sl.val (D.d (.int most)), Sl.val (D.d (.int high)), Sl.own false (D.d (.list (rs.map eR))), Sl.val (D.d (.int (done.length : Int)))], .inl ?_, a2, b2, _, _, rfl, .inr (.inl ⟨_, rfl⟩), by rw [List.length_append, List.length_singleton]; exact hd.keep, g3, g4⟩
      simp [hm]
  obtain ⟨ρ', e1, a2, b2, rs, s4, rfl, _, hd, g3, g4⟩ := key
  rw [e1]
  refine ⟨a2, b2, rs, ?_, hd.ok, g3, g4⟩
  simp [eRs]
/-- steps -/
inductive St where
  | page | drop (k : Int) | put (k r : Int)
def eS : St → P
  | .page => .tuple [.str sPage]
  | .drop k => .tuple [.str sDrop, .int k]
  | .put k r => .tuple [.str sPut, .int k, .int r]
def eH (h : List St) : P := .tuple (h.map eS)
def StOk : St → Prop
  | .page => True
  | .drop k => 0 ≤ k ∧ k ≤ 9
  | .put k r => (0 ≤ k ∧ k ≤ 9) ∧ 0 ≤ r ∧ r ≤ 5
theorem fitsStep_eS {s : St} (h : StOk s) : fitsStep (eS s) = true := by
  cases s with
  | page => rfl
  | drop k =>
    obtain ⟨h1, h2⟩ := h
    have : sDrop ≠ sPut := by decide
    simp [fitsStep, eS, fitsChange, fitsW, h1, h2, this]
  | put k r =>
    obtain ⟨⟨h1, h2⟩, h3, h4⟩ := h
    simp [fitsStep, eS, fitsChange, fitsRow, fitsW, h1, h2, h3, h4]
theorem fitsHist_eH {h : List St} (hl : h.length ≤ 60) (ha : ∀ s ∈ h, StOk s) : fitsHist (eH h) = true := by
  unfold eH fitsHist
  simp only [List.length_map, Bool.and_eq_true, decide_eq_true_eq]
  refine ⟨hl, ?_⟩
  rw [List.all_eq_true]
  intro v hv
  obtain ⟨p, hp, rfl⟩ := List.mem_map.mp hv
  exact fitsStep_eS (ha p hp)
theorem sChange {c0 c1 c2 c3 c4 c5 : Int} (h22 : T 22 = some b22) (h19 : T 19 = some b19) (h : T 18 = some (bRoll c0 c1 c2 c3 c4 c5)) (hc : HC c0 c1 c2 c3 c4 c5) (k : Nat) (a b : Int) (hb : 0 ≤ b ∧ b ≤ 4294967296) :
    ∃ a' b' s, runs T (k+3) 22 [.ln (cup a b)] = .ok (.d (eS s)) false [some (cup a' b')] ∧ StOk s ∧ 0 ≤ b' ∧ b' ≤ 4294967296 := by
  obtain ⟨a1, b1, r, e1, r1, r2, g1, g2⟩ := sRoll h hc (k + 1) a b 3 (by omega) hb
  by_cases hr : r = 0
  · subst hr
    obtain ⟨a2, b2, q, e2, q1, q2, g3, g4⟩ := sRoll h hc (k + 1) a1 b1 10 (by omega) ⟨g1, g2⟩
    refine ⟨a2, b2, .drop q, ?_, ⟨q1, by omega⟩, g3, g4⟩
    rw [runs_eq h22]
    simp [b22, e1, e2, eS]
  · obtain ⟨a2, b2, q, e2, q1, q2, g3, g4⟩ := sRoll h hc (k + 1) a1 b1 10 (by omega) ⟨g1, g2⟩
    obtain ⟨a3, b3, hi, e3, hm, g5, g6⟩ := sSome h19 h hc k a2 b2 [.int 2, .int 3, .int 6] (by simp) (by simp) ⟨g3, g4⟩
    obtain ⟨high, rfl, hh⟩ : ∃ high : Int, hi = .int high ∧ (0 < high ∧ high ≤ 6) := by
      simp at hm
      rcases hm with rfl | rfl | rfl <;> exact ⟨_, rfl, by omega⟩
    obtain ⟨a4, b4, p, e4, p1, p2, g7, g8⟩ := sRoll h hc (k + 1) a3 b3 high (by omega) ⟨g5, g6⟩
    refine ⟨a4, b4, .put q p, ?_, ⟨⟨q1, by omega⟩, p1, by omega⟩, g7, g8⟩
    rw [runs_eq h22]
    simp [b22, e1, hr, e2, e3, e4, eS]
def IvHist (many : Int) (done : List Nat) (acc : List P) (ρ : Mp.Env) : Prop := ∃ (a2 b2 : Int) (hs : List St), ρ = [Sl.own true (cup a2 b2), Sl.val (D.d (.int many)), Sl.un] ∧ acc = hs.map eS ∧ hs.length = done.length ∧ (∀ s ∈ hs, StOk s) ∧ 0 ≤ b2 ∧ b2 ≤ 4294967296
theorem sHist {c0 c1 c2 c3 c4 c5 : Int} (h23 : T 23 = some b23) (h22 : T 22 = some b22) (h19 : T 19 = some b19) (h : T 18 = some (bRoll c0 c1 c2 c3 c4 c5)) (hc : HC c0 c1 c2 c3 c4 c5) (k : Nat) (a b : Int) (n : Nat) (hn : n ≤ 16777216) (hb : 0 ≤ b ∧ b ≤ 4294967296) :
    ∃ a' b' hs, runs T (k+4) 23 [.ln (cup a b), .sh (.d (.int n))] = .ok (.d (eH hs)) false [some (cup a' b'), none] ∧ hs.length = n ∧ (∀ s ∈ hs, StOk s) ∧ 0 ≤ b' ∧ b' ≤ 4294967296 := by
  have hr : smallR (n : Int) = true := smallR_of (by omega)
  rw [runs_eq h23]
  simp [b23, hr, hn, rngL_0]
  generalize hf : compE _ _ _ _ _ _ = z
  have key : ∃ acc ρ', z = .ok (.fr (.d (.list acc))) (backE [Sl.own true (cup a b), Sl.val (D.d (.int n)), Sl.un] ρ' [2]) ∧ IvHist n (List.range n) acc ρ' := by
    rw [← hf]
    refine compE_iv (fun i : Nat => D.d (.int (i : Int))) (List.range n) (IvHist n) ⟨a, b, [], rfl, rfl, rfl, by simp, hb⟩ fun done x rest acc ρ hs hi => ?_
    obtain ⟨a2, b2, hh, rfl, rfl, hl, ha, g1, g2⟩ := hi
    refine ⟨[Sl.own true (cup a2 b2), Sl.val (D.d (.int n)), Sl.val (D.d (.int (x : Int)))], by simp, .inl ?_⟩
    obtain ⟨a3, b3, r, e1, r1, r2, g3, g4⟩ := sRoll h hc (k + 2) a2 b2 2 (by omega) ⟨g1, g2⟩
    by_cases hr : r = 0
    · subst hr
      refine ⟨_, .sh (.d (eS .page)), [Sl.own true (cup a3 b3), Sl.val (D.d (.int n)), Sl.val (D.d (.int (x : Int)))], eS .page, rfl, ?_, rfl, a3, b3, hh ++ [.page], rfl, by simp, by simp [hl], ?_, g3, g4⟩
      · simp [e1, eS]
      · intro s hs
        rcases List.mem_append.mp hs with hs | hs
        · exact ha s hs
        · rw [List.mem_singleton.mp hs]; trivial
    · obtain ⟨a4, b4, s, e2, hok, g5, g6⟩ := sChange h22 h19 h hc k a3 b3 ⟨g3, g4⟩
      refine ⟨_, .sh (.d (eS s)), [Sl.own true (cup a4 b4), Sl.val (D.d (.int n)), Sl.val (D.d (.int (x : Int)))], eS s, rfl, ?_, rfl, a4, b4, hh ++ [s], rfl, by simp, by simp [hl], ?_, g5, g6⟩
      · simp [e1, hr, e2]
      · intro s' hs
        rcases List.mem_append.mp hs with hs | hs
        · exact ha s' hs
        · rw [List.mem_singleton.mp hs]; exact hok
  obtain ⟨acc, ρ', rfl, a2, b2, hs, rfl, rfl, hl, ha, g1, g2⟩ := key
  refine ⟨a2, b2, hs, ?_, by simpa using hl, ha, g1, g2⟩
  simp [eH]
end
end Lb

set_option maxRecDepth 100000
set_option maxHeartbeats 400000
/-! Pl82: shrinks. -/
namespace Lb
open Mp PySem L2
def b10 : Fd := ⟨2, 2, (.cons (.ret (.bin .add (.sl (.var 0 "items") .no (.yes (.var 1 "at"))) (.sl (.var 0 "items") (.yes (.bin .add (.var 1 "at") (.cst (.int 1)))) .no))) .nil)⟩
def b11 : Fd := ⟨1, 1, (.cons (.ret (.tup (.cons (.ix (.var 0 "row") (.glob "KEY" (.int 0))) (.cons (.bin .sub (.ix (.var 0 "row") (.glob "RANK" (.int 1))) (.cst (.int 1))) .nil)))) .nil)⟩
def b12 : Fd := ⟨2, 6, (.cons (.set 2 "found" (.comp [("at", 3)] (.nm 3 "at") (.rng (.bi .len (.var 1 "history"))) .no (.tup (.cons (.var 0 "rows") (.cons (.call 10 (.cons (.var 1 "history") (.cons (.var 3 "at") .nil))) .nil))))) (.cons (.aug 2 "found" false (.comp [("at", 3)] (.nm 3 "at") (.rng (.bi .len (.var 0 "rows"))) .no (.tup (.cons (.call 10 (.cons (.var 0 "rows") (.cons (.var 3 "at") .nil))) (.cons (.var 1 "history") .nil))))) (.cons (.forS (.tp [(3, "at"), (4, "row")]) (.enum (.var 0 "rows")) (.cons (.ife (.cmp .gt (.ix (.var 4 "row") (.glob "RANK" (.int 1))) (.cst (.int 0))) (.cons (.app 2 "found" (.tup (.cons (.bin .add (.bin .add (.sl (.var 0 "rows") .no (.yes (.var 3 "at"))) (.tup (.cons (.call 11 (.cons (.var 4 "row") .nil)) .nil))) (.sl (.var 0 "rows") (.yes (.bin .add (.var 3 "at") (.cst (.int 1)))) .no)) (.cons (.var 1 "history") .nil)))) .nil) .nil) .nil)) (.cons (.forS (.tp [(3, "at"), (5, "step")]) (.enum (.var 1 "history")) (.cons (.ife (.bop false (.cons (.cmp .eq (.ix (.var 5 "step") (.cst (.int 0))) (.glob "PUT" (.str "put"))) (.cons (.cmp .gt (.ix (.var 5 "step") (.cst (.int 2))) (.cst (.int 0))) .nil))) (.cons (.app 2 "found" (.tup (.cons (.var 0 "rows") (.cons (.bin .add (.bin .add (.sl (.var 1 "history") .no (.yes (.var 3 "at"))) (.tup (.cons (.bin .add (.sl (.var 5 "step") .no (.yes (.cst (.int 1)))) (.call 11 (.cons (.sl (.var 5 "step") (.yes (.cst (.int 1))) .no) .nil))) .nil))) (.sl (.var 1 "history") (.yes (.bin .add (.var 3 "at") (.cst (.int 1)))) .no)) .nil)))) .nil) .nil) .nil)) (.cons (.ret (.var 2 "found")) .nil)))))⟩
def b13 : Fd := ⟨2, 5, (.cons (.set 2 "ranks" (.bin .add (.comp [("row", 3)] (.nm 3 "row") (.seq (.var 0 "rows")) .no (.ix (.var 3 "row") (.glob "RANK" (.int 1)))) (.comp [("step", 4)] (.nm 4 "step") (.seq (.var 1 "history")) (.yes (.cmp .eq (.ix (.var 4 "step") (.cst (.int 0))) (.glob "PUT" (.str "put")))) (.ix (.var 4 "step") (.cst (.int 2)))))) (.frz 2 (.cons (.ret (.bin .add (.bin .add (.bi .len (.var 1 "history")) (.bi .len (.var 0 "rows"))) (.bi .sum (.var 2 "ranks")))) .nil)))⟩
def b14 : Fd := ⟨2, 2, (.cons (.expr (.call 5 (.cons (.var 0 "rows") .nil))) (.cons (.ife (.notE (.call 8 (.cons (.var 1 "history") .nil))) (.cons (.raise 1) .nil) .nil) .nil))⟩
def b15 : Fd := ⟨2, 2, (.cons (.expr (.call 14 (.cons (.var 0 "rows") (.cons (.var 1 "history") .nil)))) (.cons (.ret (.call 13 (.cons (.var 0 "rows") (.cons (.var 1 "history") .nil)))) .nil))⟩
def b16 : Fd := ⟨2, 2, (.cons (.expr (.call 14 (.cons (.var 0 "rows") (.cons (.var 1 "history") .nil)))) (.cons (.ret (.bi .tuple (.call 12 (.cons (.var 0 "rows") (.cons (.var 1 "history") .nil))))) .nil))⟩
def b24 : Fd := ⟨2, 6, (.cons (.set 2 "found" (.lst .nil)) (.cons (.forS (.nm 3 "at") (.rng (.bi .len (.var 1 "history"))) (.cons (.app 2 "found" (.tup (.cons (.var 0 "rows") (.cons (.bin .add (.sl (.var 1 "history") .no (.yes (.var 3 "at"))) (.sl (.var 1 "history") (.yes (.bin .add (.var 3 "at") (.cst (.int 1)))) .no)) .nil)))) .nil)) (.cons (.forS (.nm 3 "at") (.rng (.bi .len (.var 0 "rows"))) (.cons (.app 2 "found" (.tup (.cons (.bin .add (.sl (.var 0 "rows") .no (.yes (.var 3 "at"))) (.sl (.var 0 "rows") (.yes (.bin .add (.var 3 "at") (.cst (.int 1)))) .no)) (.cons (.var 1 "history") .nil)))) .nil)) (.cons (.forS (.nm 3 "at") (.rng (.bi .len (.var 0 "rows"))) (.cons (.setT (.tp [(4, "key"), (5, "rank")]) (.ix (.var 0 "rows") (.var 3 "at"))) (.cons (.set 2 "found" (.bin .add (.var 2 "found") (.ife (.cmp .gt (.var 5 "rank") (.cst (.int 0))) (.lst (.cons (.tup (.cons (.bin .add (.bin .add (.sl (.var 0 "rows") .no (.yes (.var 3 "at"))) (.tup (.cons (.tup (.cons (.var 4 "key") (.cons (.bin .sub (.var 5 "rank") (.cst (.int 1))) .nil))) .nil))) (.sl (.var 0 "rows") (.yes (.bin .add (.var 3 "at") (.cst (.int 1)))) .no)) (.cons (.var 1 "history") .nil))) .nil)) (.lst .nil)))) .nil))) (.cons (.forS (.nm 3 "at") (.rng (.bi .len (.var 1 "history"))) (.cons (.ife (.bop false (.cons (.cmp .eq (.ix (.ix (.var 1 "history") (.var 3 "at")) (.cst (.int 0))) (.cst (.str "put"))) (.cons (.cmp .gt (.ix (.ix (.var 1 "history") (.var 3 "at")) (.cst (.int 2))) (.cst (.int 0))) .nil))) (.cons (.app 2 "found" (.tup (.cons (.var 0 "rows") (.cons (.bin .add (.bin .add (.sl (.var 1 "history") .no (.yes (.var 3 "at"))) (.tup (.cons (.tup (.cons (.cst (.str "put")) (.cons (.ix (.ix (.var 1 "history") (.var 3 "at")) (.cst (.int 1))) (.cons (.bin .sub (.ix (.ix (.var 1 "history") (.var 3 "at")) (.cst (.int 2))) (.cst (.int 1))) .nil)))) .nil))) (.sl (.var 1 "history") (.yes (.bin .add (.var 3 "at") (.cst (.int 1)))) .no)) .nil)))) .nil) .nil) .nil)) (.cons (.ret (.var 2 "found")) .nil))))))⟩
def b25 : Fd := ⟨2, 6, (.cons (.set 2 "found" (.bin .add (.bin .add (.bi .len (.var 1 "history")) (.bi .len (.var 0 "rows"))) (.bi .sum (.comp [("key", 3), ("rank", 4)] (.tp [(3, "key"), (4, "rank")]) (.seq (.var 0 "rows")) .no (.var 4 "rank"))))) (.cons (.ret (.bin .add (.var 2 "found") (.bi .sum (.comp [("step", 5)] (.nm 5 "step") (.seq (.var 1 "history")) (.yes (.cmp .eq (.ix (.var 5 "step") (.cst (.int 0))) (.cst (.str "put")))) (.ix (.var 5 "step") (.cst (.int 2))))))) .nil))⟩
def b26 : Fd := ⟨1, 9, (.cons (.set 1 "cup" (.call 17 (.cons (.var 0 "script") .nil))) (.cons (.set 2 "page" (.tup (.cons (.cst (.str "page")) .nil))) (.cons (.set 3 "told" (.tup (.cons (.call 16 (.cons (.tup (.cons (.tup (.cons (.cst (.int 0)) (.cons (.cst (.int 1)) .nil))) .nil)) (.cons (.tup .nil) .nil))) (.cons (.call 16 (.cons (.tup .nil) (.cons (.tup (.cons (.var 2 "page") (.cons (.tup (.cons (.cst (.str "drop")) (.cons (.cst (.int 3)) .nil))) .nil))) .nil))) (.cons (.call 16 (.cons (.tup .nil) (.cons (.tup (.cons (.tup (.cons (.cst (.str "put")) (.cons (.cst (.int 2)) (.cons (.cst (.int 1)) .nil)))) .nil)) .nil))) (.cons (.call 16 (.cons (.tup .nil) (.cons (.tup .nil) .nil))) .nil)))))) (.cons (.set 4 "due" (.tup (.cons (.tup (.cons (.tup (.cons (.tup .nil) (.cons (.tup .nil) .nil))) (.cons (.tup (.cons (.tup (.cons (.tup (.cons (.cst (.int 0)) (.cons (.cst (.int 0)) .nil))) .nil)) (.cons (.tup .nil) .nil))) .nil))) (.cons (.tup (.cons (.tup (.cons (.tup .nil) (.cons (.tup (.cons (.tup (.cons (.cst (.str "drop")) (.cons (.cst (.int 3)) .nil))) .nil)) .nil))) (.cons (.tup (.cons (.tup .nil) (.cons (.tup (.cons (.var 2 "page") .nil)) .nil))) .nil))) (.cons (.tup (.cons (.tup (.cons (.tup .nil) (.cons (.tup .nil) .nil))) (.cons (.tup (.cons (.tup .nil) (.cons (.tup (.cons (.tup (.cons (.cst (.str "put")) (.cons (.cst (.int 2)) (.cons (.cst (.int 0)) .nil)))) .nil)) .nil))) .nil))) (.cons (.tup .nil) .nil)))))) (.cons (.ife (.notE (.call 20 (.cons (.var 3 "told") (.cons (.var 4 "due") .nil)))) (.cons (.ret (.cst (.bool false))) .nil) .nil) (.cons (.ife (.notE (.call 20 (.cons (.call 16 (.cons (.tup .nil) (.cons (.tup (.cons (.var 2 "page") (.cons (.var 2 "page") .nil))) .nil))) (.cons (.tup (.cons (.tup (.cons (.tup .nil) (.cons (.tup (.cons (.var 2 "page") .nil)) .nil))) (.cons (.tup (.cons (.tup .nil) (.cons (.tup (.cons (.var 2 "page") .nil)) .nil))) .nil))) .nil)))) (.cons (.ret (.cst (.bool false))) .nil) .nil) (.cons (.set 3 "told" (.tup (.cons (.call 15 (.cons (.tup .nil) (.cons (.tup (.cons (.tup (.cons (.cst (.str "put")) (.cons (.cst (.int 0)) (.cons (.cst (.int 3)) .nil)))) .nil)) .nil))) (.cons (.call 15 (.cons (.tup (.cons (.tup (.cons (.cst (.int 1)) (.cons (.cst (.int 2)) .nil))) (.cons (.tup (.cons (.cst (.int 4)) (.cons (.cst (.int 5)) .nil))) .nil))) (.cons (.tup (.cons (.var 2 "page") (.cons (.tup (.cons (.cst (.str "drop")) (.cons (.cst (.int 9)) .nil))) .nil))) .nil))) (.cons (.call 15 (.cons (.tup .nil) (.cons (.tup .nil) .nil))) .nil))))) (.cons (.ife (.notE (.call 20 (.cons (.bin .add (.var 3 "told") (.tup (.cons (.call 15 (.cons (.tup (.cons (.tup (.cons (.cst (.int 9)) (.cons (.cst (.int 0)) .nil))) .nil)) (.cons (.bin .mul (.tup (.cons (.var 2 "page") .nil)) (.cst (.int 60))) .nil))) .nil))) (.cons (.tup (.cons (.cst (.int 4)) (.cons (.cst (.int 11)) (.cons (.cst (.int 0)) (.cons (.cst (.int 61)) .nil))))) .nil)))) (.cons (.ret (.cst (.bool false))) .nil) .nil) (.cons (.forS (.nm 5 "turn") (.rng (.cst (.int 12))) (.cons (.setP [(6, "rows"), (7, "history")] (.cons (.call 21 (.cons (.var 1 "cup") (.cons (.cst (.int 10)) .nil))) (.cons (.call 23 (.cons (.var 1 "cup") (.cons (.call 18 (.cons (.var 1 "cup") (.cons (.cst (.int 9)) .nil))) .nil))) .nil))) (.frz 6 (.frz 7 (.cons (.set 4 "due" (.call 24 (.cons (.var 6 "rows") (.cons (.var 7 "history") .nil)))) (.frz 4 (.cons (.ife (.notE (.call 20 (.cons (.tup (.cons (.call 16 (.cons (.var 6 "rows") (.cons (.var 7 "history") .nil))) (.cons (.call 15 (.cons (.var 6 "rows") (.cons (.var 7 "history") .nil))) .nil))) (.cons (.tup (.cons (.bi .tuple (.var 4 "due")) (.cons (.call 25 (.cons (.var 6 "rows") (.cons (.var 7 "history") .nil))) .nil))) .nil)))) (.cons (.ret (.cst (.bool false))) .nil) .nil) (.cons (.forS (.nm 8 "own") (.seq (.var 4 "due")) (.cons (.ife (.bop true (.cons (.cmp .isnot (.call 6 (.cons (.ix (.var 8 "own") (.cst (.int 0))) .nil)) (.cst (.bool true))) (.cons (.cmp .isnot (.call 9 (.cons (.ix (.var 8 "own") (.cst (.int 1))) .nil)) (.cst (.bool true))) .nil))) (.cons (.ret (.cst (.bool false))) .nil) .nil) (.cons (.ife (.notE (.cmp .lt (.call 15 (.cons (.ix (.var 8 "own") (.cst (.int 0))) (.cons (.ix (.var 8 "own") (.cst (.int 1))) .nil))) (.call 15 (.cons (.var 6 "rows") (.cons (.var 7 "history") .nil))))) (.cons (.ret (.cst (.bool false))) .nil) .nil) .nil))) .nil)))))))) (.cons (.ret (.cst (.bool true))) .nil))))))))))⟩

section
variable {T : Nat → Option Fd}
def wo {α : Type} (xs : List α) (i : Nat) : List α := xs.take i ++ xs.drop (i + 1)
theorem wo_map {α β : Type} (f : α → β) (xs : List α) (i : Nat) : wo (xs.map f) i = (wo xs i).map f := by simp [wo]
theorem wo_len {α : Type} (xs : List α) (i : Nat) : (xs.take i).length + (xs.drop (i + 1)).length ≤ xs.length := by simp; omega
theorem s10 (h : T 10 = some b10) (k : Nat) (xs : List P) (n : Nat) (hz : xs.length ≤ 1000) : runs T (k+1) 10 [.sh (.d (.tuple xs)), .sh (.d (.int n))] = .ok (.d (.tuple (wo xs n))) false [none, none] := by
  have := wo_len xs n
  rw [runs_eq h]
  simp only [List.length_take, List.length_drop] at this
  simp [b10, wo, show min n xs.length + (xs.length - (n + 1)) ≤ 16777216 by omega]
theorem s11 (h : T 11 = some b11) (k : Nat) (a b : Int) : runs T (k+1) 11 [.sh (.d (.tuple [.int a, .int b]))] = .ok (.d (.tuple [.int a, .int (b - 1)])) false [none] := by
  rw [runs_eq h]
  simp [b11]
abbrev Rs := List (Int × Int)
abbrev Hs := List St
def ePr (p : Rs × Hs) : P := .tuple [eRs p.1, eH p.2]
def f3 (rs : Rs) (hs : Hs) (p : (Int × Int) × Nat) : Option (Rs × Hs) := if 0 < p.1.2 then some (rs.take p.2 ++ (p.1.1, p.1.2 - 1) :: rs.drop (p.2 + 1), hs) else none
def f4 (rs : Rs) (hs : Hs) (p : St × Nat) : Option (Rs × Hs) := match p.1 with
  | .put a b => if 0 < b then some (rs, hs.take p.2 ++ .put a (b - 1) :: hs.drop (p.2 + 1)) else none
  | _ => none
def sh12 (rs : Rs) (hs : Hs) : List (Rs × Hs) := hs.zipIdx.map (fun p => (rs, wo hs p.2)) ++ rs.zipIdx.map (fun p => (wo rs p.2, hs))
def shr (rs : Rs) (hs : Hs) : List (Rs × Hs) := sh12 rs hs ++ rs.zipIdx.filterMap (f3 rs hs) ++ hs.zipIdx.filterMap (f4 rs hs)
def Iv3 (rs : Rs) (hs : Hs) (done : List ((Int × Int) × Nat)) (ρ : Mp.Env) : Prop := ∃ s3 s4, ρ = [Sl.val (D.d (eRs rs)), Sl.val (D.d (eH hs)), Sl.own false (D.d (.list ((sh12 rs hs ++ done.filterMap (f3 rs hs)).map ePr))), s3, s4, .un] ∧ FreeS s3 ∧ FreeS s4
def Iv4 (rs : Rs) (hs : Hs) (done : List (St × Nat)) (ρ : Mp.Env) : Prop := ∃ s3 s4 s5, ρ = [Sl.val (D.d (eRs rs)), Sl.val (D.d (eH hs)), Sl.own false (D.d (.list ((sh12 rs hs ++ rs.zipIdx.filterMap (f3 rs hs) ++ done.filterMap (f4 rs hs)).map ePr))), s3, s4, s5] ∧ FreeS s3 ∧ FreeS s4 ∧ FreeS s5
theorem s12 (h10 : T 10 = some b10) (h11 : T 11 = some b11) (h : T 12 = some b12) (k : Nat) (rs : Rs) (hs : Hs) (hr : rs.length ≤ 1000) (hh : hs.length ≤ 1000) : runs T (k+2) 12 [.sh (.d (eRs rs)), .sh (.d (eH hs))] = .ok (.d (.list ((shr rs hs).map ePr))) true [none, none] := by
  have q1 : smallR (hs.length : Int) = true := smallR_of (by omega)
  have q2 : smallR (rs.length : Int) = true := smallR_of (by omega)
  rw [runs_eq h]
  simp [b12, eRs, eH, q1, q2, rngL_zip, show hs.length ≤ 16777216 by omega, show rs.length ≤ 16777216 by omega]
  rw [compE_map (fun p : St × Nat => D.d (.int (p.2 : Int))) (fun p : St × Nat => ePr (rs, wo hs p.2)) (fun p hp => by simp [turnOk, s10 h10, hh, wo_map, ePr, eRs, eH])]
  simp [q2, rngL_zip, show rs.length ≤ 16777216 by omega]
  rw [compE_map (fun p : (Int × Int) × Nat => D.d (.int (p.2 : Int))) (fun p : (Int × Int) × Nat => ePr (wo rs p.2, hs)) (fun p hp => by simp [turnOk, s10 h10, hr, wo_map, ePr, eRs, eH])]
  simp [show hs.length + rs.length ≤ 16777216 by omega, enumL_map]
  generalize hf : forL _ _ _ _ = z
  have key : ∃ ρ', z = .nx ρ' ∧ Iv3 rs hs rs.zipIdx ρ' := by
    rw [← hf]
    refine forL_map (enc := fun p : (Int × Int) × Nat => D.d (.tuple [.int (p.2 : Int), eR p.1])) rs.zipIdx _ (Iv3 rs hs) ⟨.un, .un, by simp only [sh12, eRs, eH, List.map_append, List.map_map, List.filterMap_nil, List.append_nil]; rfl, .inl rfl, .inl rfl⟩ fun done x rest ρ e hi => ?_
    obtain ⟨s3, s4, rfl, f3', f4'⟩ := hi
    obtain ⟨⟨a, b⟩, i⟩ := x
    obtain ⟨hi, hx, hlt⟩ := zip_split e
    have hl := wo_len rs i
    have hdl : done.length ≤ 1000 := by omega
    have h1 : (sh12 rs hs).length ≤ 2000 := by simp [sh12]; omega
    have h2 : (done.filterMap (f3 rs hs)).length ≤ done.length := List.length_filterMap_le _ _
    refine ⟨[Sl.val (D.d (eRs rs)), Sl.val (D.d (eH hs)), Sl.own false (D.d (.list ((sh12 rs hs ++ done.filterMap (f3 rs hs)).map ePr))), Sl.val (D.d (.int (i : Int))), Sl.val (D.d (eR (a, b))), .un], by
      rcases f3' with rfl | ⟨v, rfl⟩ | ⟨v, rfl⟩ <;> rcases f4' with rfl | ⟨v, rfl⟩ | ⟨v, rfl⟩ <;> simp, ?_⟩
    by_cases hb : 0 < b
    · refine ⟨[Sl.val (D.d (eRs rs)), Sl.val (D.d (eH hs)), Sl.own false (D.d (.list ((sh12 rs hs ++ (done ++ [((a, b), i)]).filterMap (f3 rs hs)).map ePr))), Sl.val (D.d (.int (i : Int))), Sl.val (D.d (eR (a, b))), .un], .inl ?_, ⟨_, _, rfl, .inr (.inl ⟨_, rfl⟩), .inr (.inl ⟨_, rfl⟩)⟩⟩
      have hmin : min i (List.length rs) = i := by omega
      simp [hb, eR, s11 h11, f3, ePr, eRs, eH, hmin, show i ≤ 16777215 by omega, show i + 1 + (List.length rs - (i + 1)) ≤ 16777216 by omega, show (sh12 rs hs).length + (done.filterMap (f3 rs hs)).length < 16777216 by omega]
    · refine ⟨[Sl.val (D.d (eRs rs)), Sl.val (D.d (eH hs)), Sl.own false (D.d (.list ((sh12 rs hs ++ (done ++ [((a, b), i)]).filterMap (f3 rs hs)).map ePr))), Sl.val (D.d (.int (i : Int))), Sl.val (D.d (eR (a, b))), .un], .inl ?_, ⟨_, _, rfl, .inr (.inl ⟨_, rfl⟩), .inr (.inl ⟨_, rfl⟩)⟩⟩
      simp [hb, eR, f3, eRs, eH]
  obtain ⟨ρ', e1, s3, s4, rfl, f3', f4'⟩ := key
  rw [e1]
  simp [eH, enumL_map]
  generalize hf : forL _ _ _ _ = z
  have key : ∃ ρ', z = .nx ρ' ∧ Iv4 rs hs hs.zipIdx ρ' := by
    rw [← hf]
    refine forL_map (enc := fun p : St × Nat => D.d (.tuple [.int (p.2 : Int), eS p.1])) hs.zipIdx _ (Iv4 rs hs) ⟨s3, s4, .un, by simp only [eRs, eH, List.map_append, List.map_map, List.filterMap_nil, List.append_nil], f3', f4', .inl rfl⟩ fun done x rest ρ e hi => ?_
    obtain ⟨s3, s4, s5, rfl, f3', f4', f5'⟩ := hi
    obtain ⟨st, i⟩ := x
    obtain ⟨hi, hx, hlt⟩ := zip_split e
    have hl := wo_len hs i
    have hdl : done.length ≤ 1000 := by omega
    have h1 : (sh12 rs hs).length ≤ 2000 := by simp [sh12]; omega
    have h2 : (done.filterMap (f4 rs hs)).length ≤ done.length := List.length_filterMap_le _ _
    have h3 : (rs.zipIdx.filterMap (f3 rs hs)).length ≤ rs.zipIdx.length := List.length_filterMap_le _ _
    rw [List.length_zipIdx] at h3
    have hmin : min i (List.length hs) = i := by omega
    refine ⟨[Sl.val (D.d (eRs rs)), Sl.val (D.d (eH hs)), Sl.own false (D.d (.list ((sh12 rs hs ++ rs.zipIdx.filterMap (f3 rs hs) ++ done.filterMap (f4 rs hs)).map ePr))), Sl.val (D.d (.int (i : Int))), s4, Sl.val (D.d (eS st))], by
      rcases f3' with rfl | ⟨v, rfl⟩ | ⟨v, rfl⟩ <;> rcases f5' with rfl | ⟨v, rfl⟩ | ⟨v, rfl⟩ <;> simp, ?_⟩
    refine ⟨[Sl.val (D.d (eRs rs)), Sl.val (D.d (eH hs)), Sl.own false (D.d (.list ((sh12 rs hs ++ rs.zipIdx.filterMap (f3 rs hs) ++ (done ++ [(st, i)]).filterMap (f4 rs hs)).map ePr))), Sl.val (D.d (.int (i : Int))), s4, Sl.val (D.d (eS st))], .inl ?_, ⟨_, _, _, rfl, .inr (.inl ⟨_, rfl⟩), f4', .inr (.inl ⟨_, rfl⟩)⟩⟩
    cases st with
    | page => simp [eS, f4, eRs, eH, show sPage ≠ sPut by decide]
    | drop q => simp [eS, f4, eRs, eH, show sDrop ≠ sPut by decide]
    | put q r =>
      by_cases hb : 0 < r
      · simp [hb, eS, s11 h11, f4, ePr, eRs, eH, hmin, show i ≤ 16777215 by omega, show i + 1 + (List.length hs - (i + 1)) ≤ 16777216 by omega, show (sh12 rs hs).length + ((rs.zipIdx.filterMap (f3 rs hs)).length + (done.filterMap (f4 rs hs)).length) < 16777216 by omega]
      · simp [hb, eS, f4, eRs, eH]
  obtain ⟨ρ', e1, s3, s4, s5, rfl, _, _, _⟩ := key
  rw [e1]
  simp [shr]
def IvG (rs : Rs) (hs : Hs) (L : List (Rs × Hs)) (ρ : Mp.Env) : Prop := ∃ s3 s4 s5, ρ = [Sl.val (D.d (eRs rs)), Sl.val (D.d (eH hs)), Sl.own false (D.d (.list (L.map ePr))), s3, s4, s5] ∧ FreeS s3 ∧ FreeS s4 ∧ FreeS s5
theorem fsv {x : D} : FreeS (.val x) := .inr (.inl ⟨_, rfl⟩)
theorem s24 (h : T 24 = some b24) (k : Nat) (rs : Rs) (hs : Hs) (hr : rs.length ≤ 1000) (hh : hs.length ≤ 1000) : runs T (k+1) 24 [.sh (.d (eRs rs)), .sh (.d (eH hs))] = .ok (.d (.list ((shr rs hs).map ePr))) true [none, none] := by
  have q1 : smallR (hs.length : Int) = true := smallR_of (by omega)
  have q2 : smallR (rs.length : Int) = true := smallR_of (by omega)
  rw [runs_eq h]
  simp [b24, eRs, eH, q1, rngL_zip, show hs.length ≤ 16777216 by omega]
  generalize hf : forL _ _ _ _ = z
  have key : ∃ ρ', z = .nx ρ' ∧ IvG rs hs (hs.zipIdx.map (fun p => (rs, wo hs p.2))) ρ' := by
    rw [← hf]
    refine forL_map (enc := fun p : St × Nat => D.d (.int (p.2 : Int))) hs.zipIdx _ (fun done ρ => IvG rs hs (done.map (fun p => (rs, wo hs p.2))) ρ) ⟨.un, .un, .un, rfl, .inl rfl, .inl rfl, .inl rfl⟩ fun done x rest ρ e hi => ?_
    obtain ⟨s3, s4, s5, rfl, f3', f4', f5'⟩ := hi
    obtain ⟨st, i⟩ := x
    obtain ⟨hi, hx, hlt⟩ := zip_split e
    have hmin : min i (List.length hs) = i := by omega
    refine ⟨[Sl.val (D.d (eRs rs)), Sl.val (D.d (eH hs)), Sl.own false (D.d (.list ((done.map (fun p => (rs, wo hs p.2))).map ePr))), Sl.val (D.d (.int (i : Int))), s4, s5], by
      rcases f3' with rfl | ⟨v, rfl⟩ | ⟨v, rfl⟩ <;> simp, ?_⟩
    refine ⟨[Sl.val (D.d (eRs rs)), Sl.val (D.d (eH hs)), Sl.own false (D.d (.list (((done ++ [(st, i)]).map (fun p => (rs, wo hs p.2))).map ePr))), Sl.val (D.d (.int (i : Int))), s4, s5], .inl ?_, ⟨_, _, _, rfl, fsv, f4', f5'⟩⟩
    simp [ePr, eRs, eH, wo, hmin, show i + (List.length hs - (i + 1)) ≤ 16777216 by omega, show done.length < 16777216 by omega]
  obtain ⟨ρ', e1, s3, s4, s5, rfl, f3', f4', f5'⟩ := key
  rw [e1]
  simp [eRs, q2, rngL_zip, show rs.length ≤ 16777216 by omega]
  generalize hf : forL _ _ _ _ = z
  have key : ∃ ρ', z = .nx ρ' ∧ IvG rs hs (sh12 rs hs) ρ' := by
    rw [← hf]
    refine forL_map (enc := fun p : (Int × Int) × Nat => D.d (.int (p.2 : Int))) rs.zipIdx _ (fun done ρ => IvG rs hs (hs.zipIdx.map (fun p => (rs, wo hs p.2)) ++ done.map (fun p => (wo rs p.2, hs))) ρ) ⟨s3, s4, s5, by simp [eRs], f3', f4', f5'⟩ fun done x rest ρ e hi => ?_
    obtain ⟨s3, s4, s5, rfl, f3', f4', f5'⟩ := hi
    obtain ⟨st, i⟩ := x
    obtain ⟨hi, hx, hlt⟩ := zip_split e
    have hmin : min i (List.length rs) = i := by omega
    refine ⟨[Sl.val (D.d (eRs rs)), Sl.val (D.d (eH hs)), Sl.own false (D.d (.list ((hs.zipIdx.map (fun p => (rs, wo hs p.2)) ++ done.map (fun p => (wo rs p.2, hs))).map ePr))), Sl.val (D.d (.int (i : Int))), s4, s5], by
      rcases f3' with rfl | ⟨v, rfl⟩ | ⟨v, rfl⟩ <;> simp, ?_⟩
    refine ⟨[Sl.val (D.d (eRs rs)), Sl.val (D.d (eH hs)), Sl.own false (D.d (.list ((hs.zipIdx.map (fun p => (rs, wo hs p.2)) ++ (done ++ [(st, i)]).map (fun p => (wo rs p.2, hs))).map ePr))), Sl.val (D.d (.int (i : Int))), s4, s5], .inl ?_, ⟨_, _, _, rfl, fsv, f4', f5'⟩⟩
    simp [ePr, eRs, eH, wo, hmin, show i + (List.length rs - (i + 1)) ≤ 16777216 by omega, show hs.length + done.length < 16777216 by omega]
  obtain ⟨ρ', e1, s3, s4, s5, rfl, f3', f4', f5'⟩ := key
  rw [e1]
  simp [eRs, q2, rngL_zip, show rs.length ≤ 16777216 by omega]
  generalize hf : forL _ _ _ _ = z
  have hl12 : (sh12 rs hs).length ≤ 2000 := by simp [sh12]; omega
  have key : ∃ ρ', z = .nx ρ' ∧ IvG rs hs (sh12 rs hs ++ rs.zipIdx.filterMap (f3 rs hs)) ρ' := by
    rw [← hf]
    refine forL_map (enc := fun p : (Int × Int) × Nat => D.d (.int (p.2 : Int))) rs.zipIdx _ (fun done ρ => IvG rs hs (sh12 rs hs ++ done.filterMap (f3 rs hs)) ρ) ⟨s3, s4, s5, by simp [eRs], f3', f4', f5'⟩ fun done x rest ρ e hi => ?_
    obtain ⟨s3, s4, s5, rfl, f3', f4', f5'⟩ := hi
    obtain ⟨⟨a, b⟩, i⟩ := x
    obtain ⟨hi, hx, hlt⟩ := zip_split e
    have h2 : (done.filterMap (f3 rs hs)).length ≤ done.length := List.length_filterMap_le _ _
    have hmin : min i (List.length rs) = i := by omega
    refine ⟨[Sl.val (D.d (eRs rs)), Sl.val (D.d (eH hs)), Sl.own false (D.d (.list ((sh12 rs hs ++ done.filterMap (f3 rs hs)).map ePr))), Sl.val (D.d (.int (i : Int))), s4, s5], by
      rcases f3' with rfl | ⟨v, rfl⟩ | ⟨v, rfl⟩ <;> simp, ?_⟩
    refine ⟨[Sl.val (D.d (eRs rs)), Sl.val (D.d (eH hs)), Sl.own false (D.d (.list ((sh12 rs hs ++ (done ++ [((a, b), i)]).filterMap (f3 rs hs)).map ePr))), Sl.val (D.d (.int (i : Int))), Sl.val (D.d (.int a)), Sl.val (D.d (.int b))], .inl ?_, ⟨_, _, _, rfl, fsv, fsv, fsv⟩⟩
    by_cases hb : 0 < b
    · rcases f4' with rfl | ⟨v, rfl⟩ | ⟨v, rfl⟩ <;> rcases f5' with rfl | ⟨v, rfl⟩ | ⟨v, rfl⟩ <;>
      simp [hx, hb, eR, f3, ePr, eRs, eH, hmin, show i ≤ 16777215 by omega, show i + 1 + (List.length rs - (i + 1)) ≤ 16777216 by omega, show (sh12 rs hs).length + (done.filterMap (f3 rs hs)).length ≤ 16777215 by omega]
    · rcases f4' with rfl | ⟨v, rfl⟩ | ⟨v, rfl⟩ <;> rcases f5' with rfl | ⟨v, rfl⟩ | ⟨v, rfl⟩ <;>
      simp [hx, hb, eR, f3, ePr, eRs, eH, show (sh12 rs hs).length + (done.filterMap (f3 rs hs)).length ≤ 16777216 by omega]
  obtain ⟨ρ', e1, s3, s4, s5, rfl, f3', f4', f5'⟩ := key
  rw [e1]
  simp [eH, q1, rngL_zip, show hs.length ≤ 16777216 by omega]
  generalize hf : forL _ _ _ _ = z
  have key : ∃ ρ', z = .nx ρ' ∧ IvG rs hs (shr rs hs) ρ' := by
    rw [← hf]
    refine forL_map (enc := fun p : St × Nat => D.d (.int (p.2 : Int))) hs.zipIdx _ (fun done ρ => IvG rs hs (sh12 rs hs ++ rs.zipIdx.filterMap (f3 rs hs) ++ done.filterMap (f4 rs hs)) ρ) ⟨s3, s4, s5, by simp [eH], f3', f4', f5'⟩ fun done x rest ρ e hi => ?_
    obtain ⟨s3, s4, s5, rfl, f3', f4', f5'⟩ := hi
    obtain ⟨st, i⟩ := x
    obtain ⟨hi, hx, hlt⟩ := zip_split e
    have h2 : (done.filterMap (f4 rs hs)).length ≤ done.length := List.length_filterMap_le _ _
    have h3 : (rs.zipIdx.filterMap (f3 rs hs)).length ≤ rs.zipIdx.length := List.length_filterMap_le _ _
    rw [List.length_zipIdx] at h3
    have hmin : min i (List.length hs) = i := by omega
    refine ⟨[Sl.val (D.d (eRs rs)), Sl.val (D.d (eH hs)), Sl.own false (D.d (.list ((sh12 rs hs ++ rs.zipIdx.filterMap (f3 rs hs) ++ done.filterMap (f4 rs hs)).map ePr))), Sl.val (D.d (.int (i : Int))), s4, s5], by
      rcases f3' with rfl | ⟨v, rfl⟩ | ⟨v, rfl⟩ <;> simp, ?_⟩
    refine ⟨[Sl.val (D.d (eRs rs)), Sl.val (D.d (eH hs)), Sl.own false (D.d (.list ((sh12 rs hs ++ rs.zipIdx.filterMap (f3 rs hs) ++ (done ++ [(st, i)]).filterMap (f4 rs hs)).map ePr))), Sl.val (D.d (.int (i : Int))), s4, s5], .inl ?_, ⟨_, _, _, rfl, fsv, f4', f5'⟩⟩
    cases st with
    | page => simp [hx, eS, f4, eRs, eH, show sPage ≠ sPut by decide]
    | drop q => simp [hx, eS, f4, eRs, eH, show sDrop ≠ sPut by decide]
    | put q r =>
      by_cases hb : 0 < r
      · simp [hx, hb, eS, f4, ePr, eRs, eH, hmin, show i ≤ 16777215 by omega, show i + 1 + (List.length hs - (i + 1)) ≤ 16777216 by omega, show (sh12 rs hs).length + ((rs.zipIdx.filterMap (f3 rs hs)).length + (done.filterMap (f4 rs hs)).length) < 16777216 by omega]
      · simp [hx, hb, eS, f4, eRs, eH]
  obtain ⟨ρ', e1, s3, s4, s5, rfl, _, _, _⟩ := key
  rw [e1]
  simp
def putR : St → Option Int
  | .put _ r => some r
  | _ => none
def wt (rs : Rs) (hs : Hs) : Int := hs.length + rs.length + ((rs.map (·.2)).sum + (hs.filterMap putR).sum)
theorem intsP_int (xs : List Int) : intsP (xs.map PyData.int) = some xs := by
  have := intsP_map (fun x : Int => x) xs
  simpa using this
theorem s13 (h : T 13 = some b13) (k : Nat) (rs : Rs) (hs : Hs) (hr : rs.length ≤ 1000) (hh : hs.length ≤ 1000) : runs T (k+1) 13 [.sh (.d (eRs rs)), .sh (.d (eH hs))] = .ok (.d (.int (wt rs hs))) false [none, none] := by
  have hf : (hs.filterMap putR).length ≤ hs.length := List.length_filterMap_le _ _
  rw [runs_eq h]
  have e1 : (rs.map eR).map D.d = rs.map (fun p => D.d (eR p)) := by simp
  have e2 : (hs.map eS).map D.d = hs.map (fun p => D.d (eS p)) := by simp
  simp only [eRs, eH]
  simp [b13, -List.map_map]
  rw [e1, compE_map (fun p : Int × Int => D.d (eR p)) (fun p : Int × Int => .int p.2) (fun p hp => by simp [turnOk, eR])]
  simp [-List.map_map]
  rw [e2, compE_fm (fun s : St => D.d (eS s)) (fun s : St => (putR s).map PyData.int) (fun s hs => by
    cases s with
    | page => simp [turnOk, eS, putR, show (sPage == Str.ofString "put") = false by decide]
    | drop q => simp [turnOk, eS, putR, show (sDrop == Str.ofString "put") = false by decide]
    | put q r => simp [turnOk, eS, putR])]
  have e3 : hs.filterMap (fun s => (putR s).map PyData.int) = (hs.filterMap putR).map PyData.int := by rw [List.map_filterMap]
  have e4 : rs.map (fun p => PyData.int p.2) = (rs.map (·.2)).map PyData.int := by rw [List.map_map]; rfl
  rw [e3, e4]
  simp [-List.map_map, show rs.length + (hs.filterMap putR).length ≤ 16777216 by omega, ← List.map_append, intsP_int, wt]
theorem s14 (h0 : T 0 = some b0) (h1 : T 1 = some b1) (h2 : T 2 = some b2) (h3 : T 3 = some b3) (h4 : T 4 = some b4) (h5 : T 5 = some b5) (h7 : T 7 = some b7) (h8 : T 8 = some b8) (h : T 14 = some b14) (k : Nat) (x y : P) (hx : fitsList x = true) (hy : fitsHist y = true) : runs T (k+6) 14 [.sh (.d x), .sh (.d y)] = .ok (.d .none) false [none, none] := by
  rw [runs_eq h]
  simp [b14, s5 h0 h1 h2 h3 h5, s8 h0 h1 h2 h4 h7 h8, hx, hy]
structure Ok82 (T : Nat → Option Fd) : Prop where
  h0 : T 0 = some b0
  h1 : T 1 = some b1
  h2 : T 2 = some b2
  h3 : T 3 = some b3
  h4 : T 4 = some b4
  h5 : T 5 = some b5
  h6 : T 6 = some b6
  h7 : T 7 = some b7
  h8 : T 8 = some b8
  h9 : T 9 = some b9
  h10 : T 10 = some b10
  h11 : T 11 = some b11
  h12 : T 12 = some b12
  h13 : T 13 = some b13
  h14 : T 14 = some b14
  h15 : T 15 = some b15
  h16 : T 16 = some b16
  h17 : T 17 = some (bCup 233 647 5039 2077601477 331)
  h18 : T 18 = some (bRoll 31193 7919 2147482951 409 2147483059 797)
  h19 : T 19 = some b19
  h20 : T 20 = some b20
  h21 : T 21 = some b21
  h22 : T 22 = some b22
  h23 : T 23 = some b23
  h24 : T 24 = some b24
  h25 : T 25 = some b25
  h26 : T 26 = some b26
variable (M : Ok82 T)
include M
theorem s15 (k : Nat) (rs : Rs) (hs : Hs) (hr : rs.length ≤ 1000) (hh : hs.length ≤ 1000) (hx : fitsList (eRs rs) = true) (hy : fitsHist (eH hs) = true) : runs T (k+7) 15 [.sh (.d (eRs rs)), .sh (.d (eH hs))] = .ok (.d (.int (wt rs hs))) false [none, none] := by
  rw [runs_eq M.h15]
  simp [b15, s14 M.h0 M.h1 M.h2 M.h3 M.h4 M.h5 M.h7 M.h8 M.h14, hx, hy, s13 M.h13, hr, hh]
theorem s16 (k : Nat) (rs : Rs) (hs : Hs) (hr : rs.length ≤ 1000) (hh : hs.length ≤ 1000) (hx : fitsList (eRs rs) = true) (hy : fitsHist (eH hs) = true) : runs T (k+7) 16 [.sh (.d (eRs rs)), .sh (.d (eH hs))] = .ok (.d (.tuple ((shr rs hs).map ePr))) false [none, none] := by
  rw [runs_eq M.h16]
  simp [b16, s14 M.h0 M.h1 M.h2 M.h3 M.h4 M.h5 M.h7 M.h8 M.h14, hx, hy, s12 M.h10 M.h11 M.h12, hr, hh]
theorem s25 (k : Nat) (rs : Rs) (hs : Hs) (hr : rs.length ≤ 1000) (hh : hs.length ≤ 1000) : runs T (k+1) 25 [.sh (.d (eRs rs)), .sh (.d (eH hs))] = .ok (.d (.int (wt rs hs))) false [none, none] := by
  have hf : (hs.filterMap putR).length ≤ hs.length := List.length_filterMap_le _ _
  rw [runs_eq M.h25]
  have e1 : (rs.map eR).map D.d = rs.map (fun p => D.d (eR p)) := by simp
  have e2 : (hs.map eS).map D.d = hs.map (fun p => D.d (eS p)) := by simp
  simp only [eRs, eH]
  simp [b25, -List.map_map]
  rw [e1, compE_map (fun p : Int × Int => D.d (eR p)) (fun p : Int × Int => .int p.2) (fun p hp => by simp [turnOk, eR])]
  have e4 : rs.map (fun p => PyData.int p.2) = (rs.map (·.2)).map PyData.int := by rw [List.map_map]; rfl
  rw [e4]
  simp [-List.map_map, intsP_int]
  rw [e2, compE_fm (fun s : St => D.d (eS s)) (fun s : St => (putR s).map PyData.int) (fun s hs => by
    cases s with
    | page => simp [turnOk, eS, putR, show (sPage == Str.ofString "put") = false by decide]
    | drop q => simp [turnOk, eS, putR, show (sDrop == Str.ofString "put") = false by decide]
    | put q r => simp [turnOk, eS, putR])]
  have e3 : hs.filterMap (fun s => (putR s).map PyData.int) = (hs.filterMap putR).map PyData.int := by rw [List.map_filterMap]
  rw [e3]
  simp [-List.map_map, intsP_int, wt]
  omega
omit M in
theorem split_at {α : Type} {xs : List α} {i : Nat} {x : α} (h : xs[i]? = some x) : xs = xs.take i ++ x :: xs.drop (i + 1) := by
  obtain ⟨hl, rfl⟩ := List.getElem?_eq_some_iff.mp h
  rw [List.getElem_cons_drop, List.take_append_drop]
omit M in
theorem RowsOk.less {A B : Rs} {x : Int × Int} (h : RowsOk (A ++ x :: B)) : RowsOk (A ++ B) := by
  refine ⟨?_, fun p hp => h.all p ?_, ?_⟩
  · have := h.len
    simp at this ⊢
    omega
  · simp at hp ⊢
    rcases hp with hp | hp
    · exact .inl hp
    · exact .inr (.inr hp)
  · exact h.up.sublist (List.Sublist.append (List.Sublist.refl A) (List.sublist_cons_self x B))
omit M in
theorem RowsOk.lower {A B : Rs} {a b : Int} (h : RowsOk (A ++ (a, b) :: B)) (hb : 0 < b) : RowsOk (A ++ (a, b - 1) :: B) := by
  have hx := h.all (a, b) (by simp)
  refine ⟨by have := h.len; simpa using this, fun p hp => ?_, ?_⟩
  · simp at hp
    rcases hp with hp | rfl | hp
    · exact h.all p (by simp [hp])
    · obtain ⟨h1, h2, h3, h4⟩ := hx
      exact ⟨h1, h2, by show 0 ≤ b - 1; omega, by show b - 1 ≤ 5; have : b ≤ 5 := h4; omega⟩
    · exact h.all p (by simp [hp])
  · have h1 := h.up
    have h2 : ((A ++ (a, b) :: B).map (·.1)).Pairwise (· < ·) := List.pairwise_map.mpr h1
    have h3 : ((A ++ (a, b - 1) :: B).map (·.1)).Pairwise (· < ·) := by simpa using h2
    exact List.pairwise_map.mp h3
structure HOk82 (hs : Hs) : Prop where
  len : hs.length ≤ 60
  all : ∀ s ∈ hs, StOk s
omit M in
theorem shr_ok {rs : Rs} {hs : Hs} (hr : RowsOk rs) (hh : HOk82 hs) : ∀ p ∈ shr rs hs, RowsOk p.1 ∧ HOk82 p.2 ∧ wt p.1 p.2 < wt rs hs := by
  intro p hp
  unfold shr sh12 at hp
  rw [List.mem_append, List.mem_append, List.mem_append] at hp
  rcases hp with ((hp | hp) | hp) | hp
  · obtain ⟨⟨x, i⟩, hm, rfl⟩ := List.mem_map.mp hp
    obtain ⟨hx, hl⟩ := zip_mem hm
    have e := split_at hx
    have e2 : wo hs i = hs.take i ++ hs.drop (i + 1) := rfl
    show RowsOk rs ∧ HOk82 (wo hs i) ∧ wt rs (wo hs i) < wt rs hs
    rw [e2]
    generalize hs.take i = A at *
    generalize hs.drop (i + 1) = B at *
    subst e
    refine ⟨hr, ⟨?_, fun s h => hh.all s ?_⟩, ?_⟩
    · have := hh.len
      simp at this ⊢
      omega
    · simp at h ⊢
      rcases h with h | h
      · exact .inl h
      · exact .inr (.inr h)
    · have hx := hh.all x (by simp)
      cases x with
      | page => simp [wt, putR, List.filterMap_cons]; omega
      | drop q => simp [wt, putR, List.filterMap_cons]; omega
      | put q r =>
        obtain ⟨_, h3, _⟩ := hx
        simp [wt, putR, List.filterMap_cons]
        omega
  · obtain ⟨⟨⟨a, b⟩, i⟩, hm, rfl⟩ := List.mem_map.mp hp
    obtain ⟨hx, hl⟩ := zip_mem hm
    have e := split_at hx
    have e2 : wo rs i = rs.take i ++ rs.drop (i + 1) := rfl
    show RowsOk (wo rs i) ∧ HOk82 hs ∧ wt (wo rs i) hs < wt rs hs
    rw [e2]
    generalize rs.take i = A at *
    generalize rs.drop (i + 1) = B at *
    subst e
    refine ⟨hr.less, hh, ?_⟩
    have h3 := (hr.all (a, b) (by simp)).2.2.1
    have h3 : 0 ≤ b := h3
    simp [wt]
    omega
  · obtain ⟨⟨⟨a, b⟩, i⟩, hm, e0⟩ := List.mem_filterMap.mp hp
    obtain ⟨hx, hl⟩ := zip_mem hm
    have e := split_at hx
    unfold f3 at e0
    split at e0
    · rename_i hb
      cases e0
      show RowsOk (rs.take i ++ (a, b - 1) :: rs.drop (i + 1)) ∧ HOk82 hs ∧ wt (rs.take i ++ (a, b - 1) :: rs.drop (i + 1)) hs < wt rs hs
      generalize rs.take i = A at *
      generalize rs.drop (i + 1) = B at *
      subst e
      refine ⟨hr.lower hb, hh, ?_⟩
      simp [wt]
      omega
    · cases e0
  · obtain ⟨⟨x, i⟩, hm, e0⟩ := List.mem_filterMap.mp hp
    obtain ⟨hx, hl⟩ := zip_mem hm
    have e := split_at hx
    cases x with
    | page => cases e0
    | drop q => cases e0
    | put q r =>
      unfold f4 at e0
      simp only at e0
      split at e0
      · rename_i hb
        cases e0
        show RowsOk rs ∧ HOk82 (hs.take i ++ .put q (r - 1) :: hs.drop (i + 1)) ∧ wt rs (hs.take i ++ .put q (r - 1) :: hs.drop (i + 1)) < wt rs hs
        generalize hs.take i = A at *
        generalize hs.drop (i + 1) = B at *
        subst e
        have hx := hh.all (.put q r) (by simp)
        obtain ⟨h2, h3, h4⟩ := hx
        refine ⟨hr, ⟨?_, fun s h => ?_⟩, ?_⟩
        · have := hh.len
          simpa using this
        · simp at h
          rcases h with h | rfl | h
          · exact hh.all s (by simp [h])
          · exact ⟨h2, by omega, by omega⟩
          · exact hh.all s (by simp [h])
        · simp [wt, putR, List.filterMap_cons]
          omega
      · cases e0
theorem s17 (k : Nat) (ns : List Int) (hn : ns.length ≤ 63) : ∃ a b, runs T (k+1) 17 [.sh (.fz ns)] = .ok (cup a b) true [none] ∧ 0 ≤ b ∧ b ≤ 4294967296 := by
  obtain ⟨c, l, hc⟩ : ∃ (c : Int) (l : List P), ns.map PyData.int ++ [PyData.int 0] = .int c :: l := by
    cases ns with
    | nil => exact ⟨0, [], rfl⟩
    | cons n ns => exact ⟨n, _, rfl⟩
  have q1 : smallI 647 = true := smallI_of (by omega)
  generalize hcell : (if c < 0 then -c else c) = cell
  have hn0 : 0 ≤ (cell * 647 + 5039) % 2077601477 := Int.emod_nonneg _ (by omega)
  have hn1 : (cell * 647 + 5039) % 2077601477 < 2077601477 := Int.emod_lt_of_pos _ (by omega)
  refine ⟨if cell ≥ 10 ^ 18 then cell / 233 else 0, (cell * 647 + 5039) % 2077601477 + 331, ?_, by omega, by omega⟩
  rw [runs_eq M.h17]
  have e18 : (10 : Int) ^ (Int.toNat 18) = 1000000000000000000 := by decide
  by_cases hb : cell ≥ 1000000000000000000
  · simp [bCup, show ns.length + 1 ≤ 16777216 by omega, show ns.length ≤ 16777215 by omega, hc, hcell, q1, hb, e18]
  · simp [bCup, show ns.length + 1 ≤ 16777216 by omega, show ns.length ≤ 16777215 by omega, hc, hcell, q1, hb, e18]
def HCk : HC 31193 7919 2147482951 409 2147483059 797 := by unfold HC; omega
omit M in
theorem pl_eRs (n : Nat) {rs : Rs} (h : rs.length ≤ 16777216) : pl (n + 2) (eRs rs) := by
  refine ⟨by simpa using h, fun x hx => ?_⟩
  obtain ⟨p, _, rfl⟩ := List.mem_map.mp hx
  cases n <;> simp [eR, pl]
omit M in
theorem pl_eH (n : Nat) {hs : Hs} (h : hs.length ≤ 16777216) : pl (n + 2) (eH hs) := by
  refine ⟨by simpa using h, fun x hx => ?_⟩
  obtain ⟨p, _, rfl⟩ := List.mem_map.mp hx
  cases p <;> cases n <;> simp [eS, pl]
omit M in
theorem pl_res {L : List (Rs × Hs)} {w : Int} (hL : L.length ≤ 16777216) (h : ∀ p ∈ L, p.1.length ≤ 16777216 ∧ p.2.length ≤ 16777216) : pl 5 (.tuple [.tuple (L.map ePr), .int w]) := by
  refine ⟨by simp, fun x hx => ?_⟩
  simp at hx
  rcases hx with rfl | rfl
  · refine ⟨by simpa using hL, fun x hx => ?_⟩
    obtain ⟨p, hp, rfl⟩ := List.mem_map.mp hx
    obtain ⟨h1, h2⟩ := h p hp
    refine ⟨by simp, fun x hx => ?_⟩
    simp at hx
    rcases hx with rfl | rfl
    · exact pl_eRs 0 h1
    · exact pl_eH 0 h2
  · trivial
end
end Lb

set_option maxRecDepth 100000
set_option maxHeartbeats 1000000
namespace Lb
open Mp PySem L2
@[simp] theorem pl_5 (xs : List P) : pl 5 (.tuple xs) ↔ xs.length ≤ 16777216 ∧ ∀ x ∈ xs, pl 4 x := Iff.rfl
@[simp] theorem pl_4 (xs : List P) : pl 4 (.tuple xs) ↔ xs.length ≤ 16777216 ∧ ∀ x ∈ xs, pl 3 x := Iff.rfl
@[simp] theorem pl_3 (xs : List P) : pl 3 (.tuple xs) ↔ xs.length ≤ 16777216 ∧ ∀ x ∈ xs, pl 2 x := Iff.rfl
@[simp] theorem pl_2 (xs : List P) : pl 2 (.tuple xs) ↔ xs.length ≤ 16777216 ∧ ∀ x ∈ xs, pl 1 x := Iff.rfl
@[simp] theorem pl_1 (xs : List P) : pl 1 (.tuple xs) ↔ xs.length ≤ 16777216 ∧ ∀ x ∈ xs, pl 0 x := Iff.rfl
@[simp] theorem pl_int (n : Nat) (i : Int) : pl n (.int i) := by cases n <;> trivial
@[simp] theorem pl_str (n : Nat) (i : Str) : pl n (.str i) := by cases n <;> trivial
@[simp] theorem pl_bool (n : Nat) (i : Bool) : pl n (.bool i) := by cases n <;> trivial
@[simp] theorem pl_none (n : Nat) : pl n .none := by cases n <;> trivial
def h60 : List P := (List.replicate 60 St.page).map eS
section
variable {T : Nat → Option Fd} (M : Ok82 T)
include M
def Iv82 (x0 x2 x3 : Sl) (done : List Nat) (ρ : Mp.Env) : Prop := ∃ a b s4 s5 s6 s7 s8, ρ = [x0, Sl.own false (cup a b), x2, x3, s4, s5, s6, s7, s8] ∧ (FreeS s4 ∧ FreeS s5 ∧ FreeS s6 ∧ FreeS s7 ∧ FreeS s8) ∧ 0 ≤ b ∧ b ≤ 4294967296
omit M in
theorem fsv' {x : D} : FreeS (.val x) := .inr (.inl ⟨_, rfl⟩)
def IvIn (ρ0 : List Sl) (done : List (Rs × Hs)) (ρ : Mp.Env) : Prop := ∃ s8, ρ = ρ0 ++ [s8] ∧ FreeS s8
theorem law_k (j : Nat) (ns : List Int) (hn : ns.length ≤ 63) : runs T (j+10) 26 [.sh (.fz ns)] = .ok (.d (.bool true)) false [none] := by
  obtain ⟨a, b, e17, g1, g2⟩ := s17 M (j + 8) ns hn
  have c1 := s16 M (j + 2) [(0, 1)] [] (by decide) (by decide) (by rfl) (by rfl)
  have c2 := s16 M (j + 2) [] [.page, .drop 3] (by decide) (by decide) (by rfl) (by rfl)
  have c3 := s16 M (j + 2) [] [.put 2 1] (by decide) (by decide) (by rfl) (by rfl)
  have c4 := s16 M (j + 2) [] [] (by decide) (by decide) (by rfl) (by rfl)
  have c5 := s16 M (j + 2) [] [.page, .page] (by decide) (by decide) (by rfl) (by rfl)
  have w1 := s15 M (j + 2) [] [.put 0 3] (by decide) (by decide) (by rfl) (by rfl)
  have w2 := s15 M (j + 2) [(1, 2), (4, 5)] [.page, .drop 9] (by decide) (by decide) (by rfl) (by rfl)
  have w3 := s15 M (j + 2) [] [] (by decide) (by decide) (by rfl) (by rfl)
  have w4 := s15 M (j + 2) [(9, 0)] (List.replicate 60 .page) (by decide) (by decide) (by rfl) (by rfl)
  have e60 : mulP (.tuple [.tuple [.str (Str.ofString "page")]]) (.int 60) = some (.tuple h60) := by rfl
  have u4 : wt [(9, 0)] (List.replicate 60 .page) = 61 := by rfl
  rw [u4] at w4
  have w4 : runs T (j + 2 + 7) 15 [.sh (.d (.tuple [.tuple [.int 9, .int 0]])), .sh (.d (.tuple h60))] = .ok (.d (.int 61)) false [none, none] := w4
  rw [show wt [] [.put 0 3] = 4 from by rfl] at w1
  rw [show wt [(1, 2), (4, 5)] [.page, .drop 9] = 11 from by rfl] at w2
  rw [show wt [] [] = 0 from by rfl] at w3
  rw [show j + 2 + 7 = j + 9 by omega] at c1 c2 c3 c4 c5 w1 w2 w3 w4
  rw [show shr [(0, 1)] [] = [([], []), ([(0, 0)], [])] from by rfl] at c1
  rw [show shr [] [.page, .drop 3] = [([], [.drop 3]), ([], [.page])] from by rfl] at c2
  rw [show shr [] [.put 2 1] = [([], []), ([], [.put 2 0])] from by rfl] at c3
  rw [show shr [] [] = [] from by rfl] at c4
  rw [show shr [] [.page, .page] = [([], [.page]), ([], [.page])] from by rfl] at c5
  simp [eRs, eH, eR, eS, ePr, sPage, sDrop, sPut] at c1 c2 c3 c4 c5
  simp [eRs, eH, eR, eS, sPage, sDrop, sPut] at w1 w2 w3
  have sr : ∀ x, pl 5 x → runs T (j + 9) 20 [.sh (.d x), .sh (.d x)] = .ok (.d (.bool true)) false [none, none] := fun x hx => same_refl M.h20 5 (j + 3) x hx
  have e12 : rngL 0 12 = (List.range 12).map (fun i : Nat => D.d (.int (i : Int))) := rngL_0 12
  have s12' : smallR 12 = true := rfl
  rw [runs_eq M.h26]
  simp [b26, e17, c1, c2, c3, c4, c5, sr, w1, w2, w3, w4, e60, e12, s12']
  generalize hf : forL _ _ _ _ = z
  have key : ∃ ρ', z = .nx ρ' ∧ Iv82 (Sl.val (D.fz ns)) (Sl.val (D.d (PyData.tuple [PyData.str (Str.ofString "page")]))) (Sl.val (D.d (PyData.tuple [PyData.int 4, PyData.int 11, PyData.int 0]))) (List.range 12) ρ' := by
    rw [← hf]
    refine forL_map (enc := fun i : Nat => D.d (.int (i : Int))) (List.range 12) _ (Iv82 _ _ _) ⟨a, b, _, .un, .un, .un, .un, rfl, ⟨fsv', .inl rfl, .inl rfl, .inl rfl, .inl rfl⟩, g1, g2⟩ fun done x rest ρ e hi => ?_
    obtain ⟨a, b, s4, s5, s6, s7, s8, rfl, ⟨f4', f5', f6', f7', f8'⟩, g1, g2⟩ := hi
    refine ⟨[Sl.val (D.fz ns), Sl.own false (cup a b), Sl.val (D.d (PyData.tuple [PyData.str (Str.ofString "page")])), Sl.val (D.d (PyData.tuple [PyData.int 4, PyData.int 11, PyData.int 0])), s4, Sl.val (D.d (.int (x : Int))), s6, s7, s8], by
      rcases f5' with rfl | ⟨v, rfl⟩ | ⟨v, rfl⟩ <;> simp, ?_⟩
    obtain ⟨a1, b1, rs, e21, hrs, g3, g4⟩ := sList M.h21 M.h19 M.h18 HCk (j + 6) a b 10 ⟨g1, g2⟩
    rw [show j + 6 + 3 = j + 9 by omega] at e21
    obtain ⟨a2, b2, r, e18, r1, r2, g5, g6⟩ := sRoll M.h18 HCk (j + 8) a1 b1 9 (by omega) ⟨g3, g4⟩
    rw [show j + 8 + 1 = j + 9 by omega] at e18
    obtain ⟨n, rfl⟩ : ∃ n : Nat, r = n := ⟨r.toNat, by omega⟩
    obtain ⟨a3, b3, hs, e23, hl, hok, g7, g8⟩ := sHist M.h23 M.h22 M.h19 M.h18 HCk (j + 5) a2 b2 n (by omega) ⟨g5, g6⟩
    rw [show j + 5 + 4 = j + 9 by omega] at e23
    have hH : HOk82 hs := ⟨by omega, hok⟩
    have hfl := fitsList_eRs hrs
    have hfh := fitsHist_eH hH.len hH.all
    have hrl := hrs.len
    have d16 := s16 M (j + 2) rs hs (by omega) (by omega) hfl hfh
    have d15 := s15 M (j + 2) rs hs (by omega) (by omega) hfl hfh
    have d24 := s24 M.h24 (j + 8) rs hs (by omega) (by omega)
    have d25 := s25 M (j + 8) rs hs (by omega) (by omega)
    rw [show j + 2 + 7 = j + 9 by omega] at d16 d15
    rw [show j + 8 + 1 = j + 9 by omega] at d24 d25
    have hsh := shr_ok hrs hH
    have hlen : (shr rs hs).length ≤ 4000 := by
      have h1 : (rs.zipIdx.filterMap (f3 rs hs)).length ≤ rs.zipIdx.length := List.length_filterMap_le _ _
      have h2 : (hs.zipIdx.filterMap (f4 rs hs)).length ≤ hs.zipIdx.length := List.length_filterMap_le _ _
      rw [List.length_zipIdx] at h1 h2
      simp [shr, sh12]
      omega
    have dS := sr (.tuple [.tuple ((shr rs hs).map ePr), .int (wt rs hs)]) (pl_res (by omega) fun p hp => by
      obtain ⟨q1, q2, _⟩ := hsh p hp
      have := q1.len
      have := q2.len
      omega)
    refine Exists.imp (fun ρ2 (h : _ = SR.nx ρ2 ∧ _) => ⟨Or.inl h.1, h.2⟩) ?_
    have n4 : ∀ y, s4 ≠ .own true y := fun y h => by rcases f4' with z | ⟨v, z⟩ | ⟨v, z⟩ <;> (rw [z] at h; cases h)
    have n6 : ∀ y, s6 ≠ .own true y := fun y h => by rcases f6' with z | ⟨v, z⟩ | ⟨v, z⟩ <;> (rw [z] at h; cases h)
    have n7 : ∀ y, s7 ≠ .own true y := fun y h => by rcases f7' with z | ⟨v, z⟩ | ⟨v, z⟩ <;> (rw [z] at h; cases h)
    have p6 : ∀ (ρ : Mp.Env) (x : D), (match some s6 with | some (.own true _) => none | none => none | some _ => some (ρ.set 6 (.val x))) = some (ρ.set 6 (.val x)) := fun ρ x => by rcases f6' with rfl | ⟨v, rfl⟩ | ⟨v, rfl⟩ <;> rfl
    rcases f4' with rfl | ⟨v4, rfl⟩ | ⟨v4, rfl⟩ <;> rcases f6' with rfl | ⟨v6, rfl⟩ | ⟨v6, rfl⟩ <;> rcases f7' with rfl | ⟨v7, rfl⟩ | ⟨v7, rfl⟩ <;> (
      simp [e21, e18, e23, d24, d16, d15, d25, dS, hlen, show (shr rs hs).length ≤ 16777216 by omega]
      generalize hf2 : forL _ _ _ _ = z2
      have key2 : ∃ ρ', z2 = .nx ρ' ∧ IvIn [Sl.val (D.fz ns), Sl.own false (cup a3 b3), Sl.val (D.d (PyData.tuple [PyData.str (Str.ofString "page")])), Sl.val (D.d (PyData.tuple [PyData.int 4, PyData.int 11, PyData.int 0])), Sl.val (D.d (.list ((shr rs hs).map ePr))), Sl.val (D.d (.int (x : Int))), Sl.val (D.d (eRs rs)), Sl.val (D.d (eH hs))] (shr rs hs) ρ' := by
        rw [← hf2]
        refine forL_map (enc := D.d ∘ ePr) (shr rs hs) _ (IvIn _) ⟨s8, rfl, f8'⟩ fun dn p rst ρ e hi => ?_
        obtain ⟨s8, rfl, f8'⟩ := hi
        have hp : p ∈ shr rs hs := by rw [e]; simp
        obtain ⟨q1, q2, q3⟩ := hsh p hp
        have y1 := fitsList_eRs q1
        have y2 := fitsHist_eH q2.len q2.all
        have y3 := q1.len
        have y4 := q2.len
        have dw := s15 M (j + 2) p.1 p.2 (by omega) (by omega) y1 y2
        rw [show j + 2 + 7 = j + 9 by omega] at dw
        refine ⟨[Sl.val (D.fz ns), Sl.own false (cup a3 b3), Sl.val (D.d (PyData.tuple [PyData.str (Str.ofString "page")])), Sl.val (D.d (PyData.tuple [PyData.int 4, PyData.int 11, PyData.int 0])), Sl.val (D.d (.list ((shr rs hs).map ePr))), Sl.val (D.d (.int (x : Int))), Sl.val (D.d (eRs rs)), Sl.val (D.d (eH hs)), Sl.val (D.d (ePr p))], by
          rcases f8' with rfl | ⟨v, rfl⟩ | ⟨v, rfl⟩ <;> simp, _, .inl ?_, ⟨Sl.val (D.d (ePr p)), rfl, fsv'⟩⟩
        simp [ePr, s6 M.h0 M.h1 M.h2 M.h3 M.h6, s9 M.h0 M.h1 M.h2 M.h4 M.h7 M.h8 M.h9, y1, y2, dw, d15, q3]
      obtain ⟨ρ', e2, s8', rfl, f8''⟩ := key2
      rw [e2]
      exact ⟨_, rfl, a3, b3, _, _, _, _, _, rfl, ⟨fsv', fsv', fsv', fsv', f8''⟩, g7, g8⟩)
  obtain ⟨ρ', e1, a, b, s4, s5, s6, s7, s8, rfl, _⟩ := key
  rw [e1]
  simp
end
end Lb

set_option maxRecDepth 100000
set_option maxHeartbeats 0
namespace HeadT
open PySem PySem.Spec PyProof.Rows L2

def top (i : Nat) : Stmt := PySem.Challenge.pw_pagesread_k82_whole_shrinks_of_histories.main.body.getD i (.Pass ⟨0, 0, 0, 0⟩)
def d_is_tuple_of : Mp.Df := ⟨"is_tuple_of", defArgs (top 9), defBody (top 9), defScope (top 9), ["value", "low", "high"], ["value", "low", "high"], []⟩
def d_fits_whole : Mp.Df := ⟨"fits_whole", defArgs (top 10), defBody (top 10), defScope (top 10), ["value", "low", "high"], ["value", "low", "high"], []⟩
def d_fits_row : Mp.Df := ⟨"fits_row", defArgs (top 11), defBody (top 11), defScope (top 11), ["value"], ["value"], []⟩
def d_fits_list : Mp.Df := ⟨"fits_list", defArgs (top 12), defBody (top 12), defScope (top 12), ["value"], ["value", "own", "one", "other"], []⟩
def d_fits_change : Mp.Df := ⟨"fits_change", defArgs (top 13), defBody (top 13), defScope (top 13), ["value"], ["value"], []⟩
def d_need_list : Mp.Df := ⟨"need_list", defArgs (top 14), defBody (top 14), defScope (top 14), ["value"], ["value"], []⟩
def d_is_list : Mp.Df := ⟨"is_list", defArgs (top 15), defBody (top 15), defScope (top 15), ["value"], ["value"], []⟩
def d_fits_step : Mp.Df := ⟨"fits_step", defArgs (top 19), defBody (top 19), defScope (top 19), ["value"], ["value"], []⟩
def d_fits_history : Mp.Df := ⟨"fits_history", defArgs (top 20), defBody (top 20), defScope (top 20), ["value"], ["value", "own"], []⟩
def d_is_history : Mp.Df := ⟨"is_history", defArgs (top 21), defBody (top 21), defScope (top 21), ["value"], ["value"], []⟩
def d_without : Mp.Df := ⟨"without", defArgs (top 24), defBody (top 24), defScope (top 24), ["items", "at"], ["items", "at"], []⟩
def d_lower_row : Mp.Df := ⟨"lower_row", defArgs (top 25), defBody (top 25), defScope (top 25), ["row"], ["row"], []⟩
def d_shrinks_in : Mp.Df := ⟨"shrinks_in", defArgs (top 26), defBody (top 26), defScope (top 26), ["rows", "history"], ["rows", "history", "found", "at", "row", "step"], []⟩
def d_weight_in : Mp.Df := ⟨"weight_in", defArgs (top 27), defBody (top 27), defScope (top 27), ["rows", "history"], ["rows", "history", "ranks", "row", "step"], [(61, 2)]⟩
def d_need_two : Mp.Df := ⟨"need_two", defArgs (top 28), defBody (top 28), defScope (top 28), ["rows", "history"], ["rows", "history"], []⟩
def d_weight_of : Mp.Df := ⟨"weight_of", defArgs (top 29), defBody (top 29), defScope (top 29), ["rows", "history"], ["rows", "history"], []⟩
def d_shrinks_of : Mp.Df := ⟨"shrinks_of", defArgs (top 30), defBody (top 30), defScope (top 30), ["rows", "history"], ["rows", "history"], []⟩
def d__law_cup : Mp.Df := ⟨"_law_cup", defArgs (top 32), defBody (top 32), defScope (top 32), ["script"], ["script", "cell"], []⟩
def d__law_roll : Mp.Df := ⟨"_law_roll", defArgs (top 33), defBody (top 33), defScope (top 33), ["cup", "many"], ["cup", "many", "found", "deep"], []⟩
def d__law_some : Mp.Df := ⟨"_law_some", defArgs (top 34), defBody (top 34), defScope (top 34), ["cup", "things"], ["cup", "things"], []⟩
def d__law_same : Mp.Df := ⟨"_law_same", defArgs (top 35), defBody (top 35), defScope (top 35), ["told", "due"], ["told", "due", "at"], []⟩
def d__law_list : Mp.Df := ⟨"_law_list", defArgs (top 36), defBody (top 36), defScope (top 36), ["cup", "most"], ["cup", "most", "high", "found", "key"], [(100, 2), (103, 3)]⟩
def d__law_change : Mp.Df := ⟨"_law_change", defArgs (top 37), defBody (top 37), defScope (top 37), ["cup"], ["cup"], []⟩
def d__law_history : Mp.Df := ⟨"_law_history", defArgs (top 38), defBody (top 38), defScope (top 38), ["cup", "many"], ["cup", "many", "step"], []⟩
def d__law_shrinks : Mp.Df := ⟨"_law_shrinks", defArgs (top 39), defBody (top 39), defScope (top 39), ["rows", "history"], ["rows", "history", "found", "at", "key", "rank"], []⟩
def d__law_weight : Mp.Df := ⟨"_law_weight", defArgs (top 40), defBody (top 40), defScope (top 40), ["rows", "history"], ["rows", "history", "found", "key", "rank", "step"], []⟩
def d_law : Mp.Df := ⟨"law", defArgs (top 41), defBody (top 41), defScope (top 41), ["script"], ["script", "cup", "page", "told", "due", "turn", "rows", "history", "own"], [(140, 6), (140, 7), (141, 4)]⟩
def tx : Mp.Tx := ⟨[(0, d_is_tuple_of), (1, d_fits_whole), (2, d_fits_row), (3, d_fits_list), (4, d_fits_change), (5, d_need_list), (6, d_is_list), (7, d_fits_step), (8, d_fits_history), (9, d_is_history), (10, d_without), (11, d_lower_row), (12, d_shrinks_in), (13, d_weight_in), (14, d_need_two), (15, d_weight_of), (16, d_shrinks_of), (17, d__law_cup), (18, d__law_roll), (19, d__law_some), (20, d__law_same), (21, d__law_list), (22, d__law_change), (23, d__law_history), (24, d__law_shrinks), (25, d__law_weight), (26, d_law)], [("KEYS", (.int 10)), ("RANKS", (.int 6)), ("KEY", (.int 0)), ("RANK", (.int 1)), ("PAGE", (.tuple [(.str "page")])), ("STEPS", (.int 60)), ("PUT", (.str "put"))], [("InvalidRows", 0), ("InvalidHistory", 1)], ["abs", "all", "bool", "enumerate", "int", "isinstance", "len", "list", "range", "str", "sum", "tuple", "zip"]⟩
def b0 : Mp.Fd := ⟨3, 3, (.cons (.ret (.bop false (.cons (.bi (.isi .tuple) (.var 0 "value")) (.cons (.chain .le .le (.var 1 "low") (.bi .len (.var 0 "value")) (.var 2 "high")) .nil)))) .nil)⟩
def b1 : Mp.Fd := ⟨3, 3, (.cons (.ret (.bop false (.cons (.bi (.isi .int) (.var 0 "value")) (.cons (.notE (.bi (.isi .bool) (.var 0 "value"))) (.cons (.chain .le .le (.var 1 "low") (.var 0 "value") (.var 2 "high")) .nil))))) .nil)⟩
def b2 : Mp.Fd := ⟨1, 1, (.cons (.ret (.bop false (.cons (.call 0 (.cons (.var 0 "value") (.cons (.cst (.int 2)) (.cons (.cst (.int 2)) .nil)))) (.cons (.call 1 (.cons (.ix (.var 0 "value") (.glob "KEY" (.int 0))) (.cons (.cst (.int 0)) (.cons (.bin .sub (.glob "KEYS" (.int 10)) (.cst (.int 1))) .nil)))) (.cons (.call 1 (.cons (.ix (.var 0 "value") (.glob "RANK" (.int 1))) (.cons (.cst (.int 0)) (.cons (.bin .sub (.glob "RANKS" (.int 6)) (.cst (.int 1))) .nil)))) .nil))))) .nil)⟩
def b3 : Mp.Fd := ⟨1, 4, (.cons (.ife (.bop true (.cons (.notE (.call 0 (.cons (.var 0 "value") (.cons (.cst (.int 0)) (.cons (.glob "KEYS" (.int 10)) .nil))))) (.cons (.notE (.bi .all (.comp [("own", 1)] (.nm 1 "own") (.seq (.var 0 "value")) .no (.call 2 (.cons (.var 1 "own") .nil))))) .nil))) (.cons (.ret (.cst (.bool false))) .nil) .nil) (.cons (.ret (.bi .all (.comp [("one", 2), ("other", 3)] (.tp [(2, "one"), (3, "other")]) (.zip (.var 0 "value") (.sl (.var 0 "value") (.yes (.cst (.int 1))) .no)) .no (.cmp .lt (.ix (.var 2 "one") (.glob "KEY" (.int 0))) (.ix (.var 3 "other") (.glob "KEY" (.int 0))))))) .nil))⟩
def b4 : Mp.Fd := ⟨1, 1, (.cons (.ife (.bop true (.cons (.notE (.call 0 (.cons (.var 0 "value") (.cons (.cst (.int 2)) (.cons (.cst (.int 3)) .nil))))) (.cons (.notE (.bi (.isi .str) (.ix (.var 0 "value") (.cst (.int 0))))) .nil))) (.cons (.ret (.cst (.bool false))) .nil) .nil) (.cons (.ife (.cmp .eq (.ix (.var 0 "value") (.cst (.int 0))) (.cst (.str "put"))) (.cons (.ret (.bop false (.cons (.cmp .eq (.bi .len (.var 0 "value")) (.cst (.int 3))) (.cons (.call 2 (.cons (.sl (.var 0 "value") (.yes (.cst (.int 1))) .no) .nil)) .nil)))) .nil) .nil) (.cons (.ret (.bop false (.cons (.cmp .eq (.ix (.var 0 "value") (.cst (.int 0))) (.cst (.str "drop"))) (.cons (.cmp .eq (.bi .len (.var 0 "value")) (.cst (.int 2))) (.cons (.call 1 (.cons (.ix (.var 0 "value") (.cst (.int 1))) (.cons (.cst (.int 0)) (.cons (.bin .sub (.glob "KEYS" (.int 10)) (.cst (.int 1))) .nil)))) .nil))))) .nil)))⟩
def b5 : Mp.Fd := ⟨1, 1, (.cons (.ife (.notE (.call 3 (.cons (.var 0 "value") .nil))) (.cons (.raise 0) .nil) .nil) .nil)⟩
def b6 : Mp.Fd := ⟨1, 1, (.cons (.ret (.call 3 (.cons (.var 0 "value") .nil))) .nil)⟩
def b7 : Mp.Fd := ⟨1, 1, (.cons (.ret (.bop true (.cons (.bop false (.cons (.cmp .eq (.var 0 "value") (.glob "PAGE" (.tuple [(.str "page")]))) (.cons (.bi (.isi .tuple) (.var 0 "value")) .nil))) (.cons (.call 4 (.cons (.var 0 "value") .nil)) .nil)))) .nil)⟩
def b8 : Mp.Fd := ⟨1, 2, (.cons (.ret (.bop false (.cons (.call 0 (.cons (.var 0 "value") (.cons (.cst (.int 0)) (.cons (.glob "STEPS" (.int 60)) .nil)))) (.cons (.bi .all (.comp [("own", 1)] (.nm 1 "own") (.seq (.var 0 "value")) .no (.call 7 (.cons (.var 1 "own") .nil)))) .nil)))) .nil)⟩
def b9 : Mp.Fd := ⟨1, 1, (.cons (.ret (.call 8 (.cons (.var 0 "value") .nil))) .nil)⟩
def b10 : Mp.Fd := ⟨2, 2, (.cons (.ret (.bin .add (.sl (.var 0 "items") .no (.yes (.var 1 "at"))) (.sl (.var 0 "items") (.yes (.bin .add (.var 1 "at") (.cst (.int 1)))) .no))) .nil)⟩
def b11 : Mp.Fd := ⟨1, 1, (.cons (.ret (.tup (.cons (.ix (.var 0 "row") (.glob "KEY" (.int 0))) (.cons (.bin .sub (.ix (.var 0 "row") (.glob "RANK" (.int 1))) (.cst (.int 1))) .nil)))) .nil)⟩
def b12 : Mp.Fd := ⟨2, 6, (.cons (.set 2 "found" (.comp [("at", 3)] (.nm 3 "at") (.rng (.bi .len (.var 1 "history"))) .no (.tup (.cons (.var 0 "rows") (.cons (.call 10 (.cons (.var 1 "history") (.cons (.var 3 "at") .nil))) .nil))))) (.cons (.aug 2 "found" false (.comp [("at", 3)] (.nm 3 "at") (.rng (.bi .len (.var 0 "rows"))) .no (.tup (.cons (.call 10 (.cons (.var 0 "rows") (.cons (.var 3 "at") .nil))) (.cons (.var 1 "history") .nil))))) (.cons (.forS (.tp [(3, "at"), (4, "row")]) (.enum (.var 0 "rows")) (.cons (.ife (.cmp .gt (.ix (.var 4 "row") (.glob "RANK" (.int 1))) (.cst (.int 0))) (.cons (.app 2 "found" (.tup (.cons (.bin .add (.bin .add (.sl (.var 0 "rows") .no (.yes (.var 3 "at"))) (.tup (.cons (.call 11 (.cons (.var 4 "row") .nil)) .nil))) (.sl (.var 0 "rows") (.yes (.bin .add (.var 3 "at") (.cst (.int 1)))) .no)) (.cons (.var 1 "history") .nil)))) .nil) .nil) .nil)) (.cons (.forS (.tp [(3, "at"), (5, "step")]) (.enum (.var 1 "history")) (.cons (.ife (.bop false (.cons (.cmp .eq (.ix (.var 5 "step") (.cst (.int 0))) (.glob "PUT" (.str "put"))) (.cons (.cmp .gt (.ix (.var 5 "step") (.cst (.int 2))) (.cst (.int 0))) .nil))) (.cons (.app 2 "found" (.tup (.cons (.var 0 "rows") (.cons (.bin .add (.bin .add (.sl (.var 1 "history") .no (.yes (.var 3 "at"))) (.tup (.cons (.bin .add (.sl (.var 5 "step") .no (.yes (.cst (.int 1)))) (.call 11 (.cons (.sl (.var 5 "step") (.yes (.cst (.int 1))) .no) .nil))) .nil))) (.sl (.var 1 "history") (.yes (.bin .add (.var 3 "at") (.cst (.int 1)))) .no)) .nil)))) .nil) .nil) .nil)) (.cons (.ret (.var 2 "found")) .nil)))))⟩
def b13 : Mp.Fd := ⟨2, 5, (.cons (.set 2 "ranks" (.bin .add (.comp [("row", 3)] (.nm 3 "row") (.seq (.var 0 "rows")) .no (.ix (.var 3 "row") (.glob "RANK" (.int 1)))) (.comp [("step", 4)] (.nm 4 "step") (.seq (.var 1 "history")) (.yes (.cmp .eq (.ix (.var 4 "step") (.cst (.int 0))) (.glob "PUT" (.str "put")))) (.ix (.var 4 "step") (.cst (.int 2)))))) (.frz 2 (.cons (.ret (.bin .add (.bin .add (.bi .len (.var 1 "history")) (.bi .len (.var 0 "rows"))) (.bi .sum (.var 2 "ranks")))) .nil)))⟩
def b14 : Mp.Fd := ⟨2, 2, (.cons (.expr (.call 5 (.cons (.var 0 "rows") .nil))) (.cons (.ife (.notE (.call 8 (.cons (.var 1 "history") .nil))) (.cons (.raise 1) .nil) .nil) .nil))⟩
def b15 : Mp.Fd := ⟨2, 2, (.cons (.expr (.call 14 (.cons (.var 0 "rows") (.cons (.var 1 "history") .nil)))) (.cons (.ret (.call 13 (.cons (.var 0 "rows") (.cons (.var 1 "history") .nil)))) .nil))⟩
def b16 : Mp.Fd := ⟨2, 2, (.cons (.expr (.call 14 (.cons (.var 0 "rows") (.cons (.var 1 "history") .nil)))) (.cons (.ret (.bi .tuple (.call 12 (.cons (.var 0 "rows") (.cons (.var 1 "history") .nil))))) .nil))⟩
def b17 : Mp.Fd := ⟨1, 2, (.cons (.set 1 "cell" (.bi .abs (.ix (.bin .add (.bi .list (.var 0 "script")) (.lst (.cons (.cst (.int 0)) .nil))) (.cst (.int 0))))) (.cons (.ret (.lst (.cons (.ife (.cmp .ge (.var 1 "cell") (.bin .pow (.cst (.int 10)) (.cst (.int 18)))) (.bin .fdiv (.var 1 "cell") (.cst (.int 233))) (.cst (.int 0))) (.cons (.bin .add (.bin .mod (.bi .int (.bin .add (.bin .mul (.var 1 "cell") (.cst (.int 647))) (.cst (.int 5039)))) (.cst (.int 2077601477))) (.cst (.int 331))) .nil)))) .nil))⟩
def b18 : Mp.Fd := ⟨2, 4, (.cons (.ife (.cmp .gt (.ix (.var 0 "cup") (.cst (.int 0))) (.cst (.int 0))) (.cons (.set 2 "found" (.bin .mod (.bi .int (.ix (.var 0 "cup") (.cst (.int 0)))) (.var 1 "many"))) (.cons (.setIx 0 "cup" (.cst (.int 0)) (.bin .fdiv (.ix (.var 0 "cup") (.cst (.int 0))) (.var 1 "many"))) (.cons (.ret (.var 2 "found")) .nil))) .nil) (.cons (.setIx 0 "cup" (.cst (.int 1)) (.bin .mod (.bi .int (.bin .add (.bin .mul (.ix (.var 0 "cup") (.cst (.int 1))) (.cst (.int 31193))) (.cst (.int 7919)))) (.cst (.int 2147482951)))) (.cons (.set 3 "deep" (.bin .mod (.bi .int (.bin .mul (.ix (.var 0 "cup") (.cst (.int 1))) (.bin .add (.ix (.var 0 "cup") (.cst (.int 1))) (.cst (.int 409))))) (.cst (.int 2147483059)))) (.cons (.ret (.bin .mod (.bi .int (.bin .fdiv (.var 3 "deep") (.cst (.int 797)))) (.var 1 "many"))) .nil))))⟩
def b19 : Mp.Fd := ⟨2, 2, (.cons (.ret (.ix (.var 1 "things") (.call 18 (.cons (.var 0 "cup") (.cons (.bi .len (.var 1 "things")) .nil))))) .nil)⟩
def b20 : Mp.Fd := ⟨2, 3, (.cons (.ife (.bi (.isi .tuple) (.var 1 "due")) (.cons (.ife (.bop true (.cons (.notE (.bi (.isi .tuple) (.var 0 "told"))) (.cons (.cmp .ne (.bi .len (.var 0 "told")) (.bi .len (.var 1 "due"))) .nil))) (.cons (.ret (.cst (.bool false))) .nil) .nil) (.cons (.ret (.bi .all (.comp [("at", 2)] (.nm 2 "at") (.rng (.bi .len (.var 1 "due"))) .no (.call 20 (.cons (.ix (.var 0 "told") (.var 2 "at")) (.cons (.ix (.var 1 "due") (.var 2 "at")) .nil)))))) .nil)) .nil) (.cons (.ife (.cmp .is (.var 1 "due") (.cst .none)) (.cons (.ret (.cmp .is (.var 0 "told") (.cst .none))) .nil) .nil) (.cons (.ife (.bi (.isi .bool) (.var 1 "due")) (.cons (.ret (.ife (.var 1 "due") (.cmp .is (.var 0 "told") (.cst (.bool true))) (.cmp .is (.var 0 "told") (.cst (.bool false))))) .nil) .nil) (.cons (.ife (.bi (.isi .int) (.var 1 "due")) (.cons (.ret (.bop false (.cons (.bi (.isi .int) (.var 0 "told")) (.cons (.notE (.bi (.isi .bool) (.var 0 "told"))) (.cons (.cmp .eq (.bi .int (.var 0 "told")) (.var 1 "due")) .nil))))) .nil) .nil) (.cons (.ret (.bop false (.cons (.bi (.isi .str) (.var 0 "told")) (.cons (.cmp .eq (.bi .str (.var 0 "told")) (.var 1 "due")) .nil)))) .nil)))))⟩
def b21 : Mp.Fd := ⟨2, 5, (.cons (.setP [(2, "high"), (3, "found")] (.cons (.call 19 (.cons (.var 0 "cup") (.cons (.lst (.cons (.cst (.int 2)) (.cons (.cst (.int 3)) (.cons (.cst (.int 6)) .nil)))) .nil))) (.cons (.lst .nil) .nil))) (.frz 2 (.cons (.forS (.nm 4 "key") (.rng (.cst (.int 10))) (.cons (.ife (.bop false (.cons (.cmp .lt (.bi .len (.var 3 "found")) (.var 1 "most")) (.cons (.cmp .eq (.call 18 (.cons (.var 0 "cup") (.cons (.cst (.int 2)) .nil))) (.cst (.int 0))) .nil))) (.cons (.app 3 "found" (.tup (.cons (.var 4 "key") (.cons (.call 18 (.cons (.var 0 "cup") (.cons (.var 2 "high") .nil))) .nil)))) .nil) .nil) .nil)) (.frz 3 (.cons (.ret (.bi .tuple (.var 3 "found"))) .nil)))))⟩
def b22 : Mp.Fd := ⟨1, 1, (.cons (.ife (.cmp .eq (.call 18 (.cons (.var 0 "cup") (.cons (.cst (.int 3)) .nil))) (.cst (.int 0))) (.cons (.ret (.tup (.cons (.cst (.str "drop")) (.cons (.call 18 (.cons (.var 0 "cup") (.cons (.cst (.int 10)) .nil))) .nil)))) .nil) .nil) (.cons (.ret (.tup (.cons (.cst (.str "put")) (.cons (.call 18 (.cons (.var 0 "cup") (.cons (.cst (.int 10)) .nil))) (.cons (.call 18 (.cons (.var 0 "cup") (.cons (.call 19 (.cons (.var 0 "cup") (.cons (.lst (.cons (.cst (.int 2)) (.cons (.cst (.int 3)) (.cons (.cst (.int 6)) .nil)))) .nil))) .nil))) .nil))))) .nil))⟩
def b23 : Mp.Fd := ⟨2, 3, (.cons (.ret (.bi .tuple (.comp [("step", 2)] (.nm 2 "step") (.rng (.var 1 "many")) .no (.ife (.cmp .eq (.call 18 (.cons (.var 0 "cup") (.cons (.cst (.int 2)) .nil))) (.cst (.int 0))) (.tup (.cons (.cst (.str "page")) .nil)) (.call 22 (.cons (.var 0 "cup") .nil)))))) .nil)⟩
def b24 : Mp.Fd := ⟨2, 6, (.cons (.set 2 "found" (.lst .nil)) (.cons (.forS (.nm 3 "at") (.rng (.bi .len (.var 1 "history"))) (.cons (.app 2 "found" (.tup (.cons (.var 0 "rows") (.cons (.bin .add (.sl (.var 1 "history") .no (.yes (.var 3 "at"))) (.sl (.var 1 "history") (.yes (.bin .add (.var 3 "at") (.cst (.int 1)))) .no)) .nil)))) .nil)) (.cons (.forS (.nm 3 "at") (.rng (.bi .len (.var 0 "rows"))) (.cons (.app 2 "found" (.tup (.cons (.bin .add (.sl (.var 0 "rows") .no (.yes (.var 3 "at"))) (.sl (.var 0 "rows") (.yes (.bin .add (.var 3 "at") (.cst (.int 1)))) .no)) (.cons (.var 1 "history") .nil)))) .nil)) (.cons (.forS (.nm 3 "at") (.rng (.bi .len (.var 0 "rows"))) (.cons (.setT (.tp [(4, "key"), (5, "rank")]) (.ix (.var 0 "rows") (.var 3 "at"))) (.cons (.set 2 "found" (.bin .add (.var 2 "found") (.ife (.cmp .gt (.var 5 "rank") (.cst (.int 0))) (.lst (.cons (.tup (.cons (.bin .add (.bin .add (.sl (.var 0 "rows") .no (.yes (.var 3 "at"))) (.tup (.cons (.tup (.cons (.var 4 "key") (.cons (.bin .sub (.var 5 "rank") (.cst (.int 1))) .nil))) .nil))) (.sl (.var 0 "rows") (.yes (.bin .add (.var 3 "at") (.cst (.int 1)))) .no)) (.cons (.var 1 "history") .nil))) .nil)) (.lst .nil)))) .nil))) (.cons (.forS (.nm 3 "at") (.rng (.bi .len (.var 1 "history"))) (.cons (.ife (.bop false (.cons (.cmp .eq (.ix (.ix (.var 1 "history") (.var 3 "at")) (.cst (.int 0))) (.cst (.str "put"))) (.cons (.cmp .gt (.ix (.ix (.var 1 "history") (.var 3 "at")) (.cst (.int 2))) (.cst (.int 0))) .nil))) (.cons (.app 2 "found" (.tup (.cons (.var 0 "rows") (.cons (.bin .add (.bin .add (.sl (.var 1 "history") .no (.yes (.var 3 "at"))) (.tup (.cons (.tup (.cons (.cst (.str "put")) (.cons (.ix (.ix (.var 1 "history") (.var 3 "at")) (.cst (.int 1))) (.cons (.bin .sub (.ix (.ix (.var 1 "history") (.var 3 "at")) (.cst (.int 2))) (.cst (.int 1))) .nil)))) .nil))) (.sl (.var 1 "history") (.yes (.bin .add (.var 3 "at") (.cst (.int 1)))) .no)) .nil)))) .nil) .nil) .nil)) (.cons (.ret (.var 2 "found")) .nil))))))⟩
def b25 : Mp.Fd := ⟨2, 6, (.cons (.set 2 "found" (.bin .add (.bin .add (.bi .len (.var 1 "history")) (.bi .len (.var 0 "rows"))) (.bi .sum (.comp [("key", 3), ("rank", 4)] (.tp [(3, "key"), (4, "rank")]) (.seq (.var 0 "rows")) .no (.var 4 "rank"))))) (.cons (.ret (.bin .add (.var 2 "found") (.bi .sum (.comp [("step", 5)] (.nm 5 "step") (.seq (.var 1 "history")) (.yes (.cmp .eq (.ix (.var 5 "step") (.cst (.int 0))) (.cst (.str "put")))) (.ix (.var 5 "step") (.cst (.int 2))))))) .nil))⟩
def b26 : Mp.Fd := ⟨1, 9, (.cons (.set 1 "cup" (.call 17 (.cons (.var 0 "script") .nil))) (.cons (.set 2 "page" (.tup (.cons (.cst (.str "page")) .nil))) (.cons (.set 3 "told" (.tup (.cons (.call 16 (.cons (.tup (.cons (.tup (.cons (.cst (.int 0)) (.cons (.cst (.int 1)) .nil))) .nil)) (.cons (.tup .nil) .nil))) (.cons (.call 16 (.cons (.tup .nil) (.cons (.tup (.cons (.var 2 "page") (.cons (.tup (.cons (.cst (.str "drop")) (.cons (.cst (.int 3)) .nil))) .nil))) .nil))) (.cons (.call 16 (.cons (.tup .nil) (.cons (.tup (.cons (.tup (.cons (.cst (.str "put")) (.cons (.cst (.int 2)) (.cons (.cst (.int 1)) .nil)))) .nil)) .nil))) (.cons (.call 16 (.cons (.tup .nil) (.cons (.tup .nil) .nil))) .nil)))))) (.cons (.set 4 "due" (.tup (.cons (.tup (.cons (.tup (.cons (.tup .nil) (.cons (.tup .nil) .nil))) (.cons (.tup (.cons (.tup (.cons (.tup (.cons (.cst (.int 0)) (.cons (.cst (.int 0)) .nil))) .nil)) (.cons (.tup .nil) .nil))) .nil))) (.cons (.tup (.cons (.tup (.cons (.tup .nil) (.cons (.tup (.cons (.tup (.cons (.cst (.str "drop")) (.cons (.cst (.int 3)) .nil))) .nil)) .nil))) (.cons (.tup (.cons (.tup .nil) (.cons (.tup (.cons (.var 2 "page") .nil)) .nil))) .nil))) (.cons (.tup (.cons (.tup (.cons (.tup .nil) (.cons (.tup .nil) .nil))) (.cons (.tup (.cons (.tup .nil) (.cons (.tup (.cons (.tup (.cons (.cst (.str "put")) (.cons (.cst (.int 2)) (.cons (.cst (.int 0)) .nil)))) .nil)) .nil))) .nil))) (.cons (.tup .nil) .nil)))))) (.cons (.ife (.notE (.call 20 (.cons (.var 3 "told") (.cons (.var 4 "due") .nil)))) (.cons (.ret (.cst (.bool false))) .nil) .nil) (.cons (.ife (.notE (.call 20 (.cons (.call 16 (.cons (.tup .nil) (.cons (.tup (.cons (.var 2 "page") (.cons (.var 2 "page") .nil))) .nil))) (.cons (.tup (.cons (.tup (.cons (.tup .nil) (.cons (.tup (.cons (.var 2 "page") .nil)) .nil))) (.cons (.tup (.cons (.tup .nil) (.cons (.tup (.cons (.var 2 "page") .nil)) .nil))) .nil))) .nil)))) (.cons (.ret (.cst (.bool false))) .nil) .nil) (.cons (.set 3 "told" (.tup (.cons (.call 15 (.cons (.tup .nil) (.cons (.tup (.cons (.tup (.cons (.cst (.str "put")) (.cons (.cst (.int 0)) (.cons (.cst (.int 3)) .nil)))) .nil)) .nil))) (.cons (.call 15 (.cons (.tup (.cons (.tup (.cons (.cst (.int 1)) (.cons (.cst (.int 2)) .nil))) (.cons (.tup (.cons (.cst (.int 4)) (.cons (.cst (.int 5)) .nil))) .nil))) (.cons (.tup (.cons (.var 2 "page") (.cons (.tup (.cons (.cst (.str "drop")) (.cons (.cst (.int 9)) .nil))) .nil))) .nil))) (.cons (.call 15 (.cons (.tup .nil) (.cons (.tup .nil) .nil))) .nil))))) (.cons (.ife (.notE (.call 20 (.cons (.bin .add (.var 3 "told") (.tup (.cons (.call 15 (.cons (.tup (.cons (.tup (.cons (.cst (.int 9)) (.cons (.cst (.int 0)) .nil))) .nil)) (.cons (.bin .mul (.tup (.cons (.var 2 "page") .nil)) (.cst (.int 60))) .nil))) .nil))) (.cons (.tup (.cons (.cst (.int 4)) (.cons (.cst (.int 11)) (.cons (.cst (.int 0)) (.cons (.cst (.int 61)) .nil))))) .nil)))) (.cons (.ret (.cst (.bool false))) .nil) .nil) (.cons (.forS (.nm 5 "turn") (.rng (.cst (.int 12))) (.cons (.setP [(6, "rows"), (7, "history")] (.cons (.call 21 (.cons (.var 1 "cup") (.cons (.cst (.int 10)) .nil))) (.cons (.call 23 (.cons (.var 1 "cup") (.cons (.call 18 (.cons (.var 1 "cup") (.cons (.cst (.int 9)) .nil))) .nil))) .nil))) (.frz 6 (.frz 7 (.cons (.set 4 "due" (.call 24 (.cons (.var 6 "rows") (.cons (.var 7 "history") .nil)))) (.frz 4 (.cons (.ife (.notE (.call 20 (.cons (.tup (.cons (.call 16 (.cons (.var 6 "rows") (.cons (.var 7 "history") .nil))) (.cons (.call 15 (.cons (.var 6 "rows") (.cons (.var 7 "history") .nil))) .nil))) (.cons (.tup (.cons (.bi .tuple (.var 4 "due")) (.cons (.call 25 (.cons (.var 6 "rows") (.cons (.var 7 "history") .nil))) .nil))) .nil)))) (.cons (.ret (.cst (.bool false))) .nil) .nil) (.cons (.forS (.nm 8 "own") (.seq (.var 4 "due")) (.cons (.ife (.bop true (.cons (.cmp .isnot (.call 6 (.cons (.ix (.var 8 "own") (.cst (.int 0))) .nil)) (.cst (.bool true))) (.cons (.cmp .isnot (.call 9 (.cons (.ix (.var 8 "own") (.cst (.int 1))) .nil)) (.cst (.bool true))) .nil))) (.cons (.ret (.cst (.bool false))) .nil) .nil) (.cons (.ife (.notE (.cmp .lt (.call 15 (.cons (.ix (.var 8 "own") (.cst (.int 0))) (.cons (.ix (.var 8 "own") (.cst (.int 1))) .nil))) (.call 15 (.cons (.var 6 "rows") (.cons (.var 7 "history") .nil))))) (.cons (.ret (.cst (.bool false))) .nil) .nil) .nil))) .nil)))))))) (.cons (.ret (.cst (.bool true))) .nil))))))))))⟩
def T (i : Nat) : Option Mp.Fd := List.lookup i [(0, b0), (1, b1), (2, b2), (3, b3), (4, b4), (5, b5), (6, b6), (7, b7), (8, b8), (9, b9), (10, b10), (11, b11), (12, b12), (13, b13), (14, b14), (15, b15), (16, b16), (17, b17), (18, b18), (19, b19), (20, b20), (21, b21), (22, b22), (23, b23), (24, b24), (25, b25), (26, b26)]
theorem ok0 : Mp.DOk tx.g tx.b T (0, d_is_tuple_of) := ⟨b0, rfl, by kernel_rfl, rfl, rfl, ⟨rfl, rfl, rfl, by decide +kernel, rfl, by decide +kernel, by decide +kernel⟩⟩
theorem bn0 : Mp.Bnd (0, d_is_tuple_of) := fun _ _ _ _ _ _ us hl => match us, hl with | [_, _, _], _ => rfl
theorem ok1 : Mp.DOk tx.g tx.b T (1, d_fits_whole) := ⟨b1, rfl, by kernel_rfl, rfl, rfl, ⟨rfl, rfl, rfl, by decide +kernel, rfl, by decide +kernel, by decide +kernel⟩⟩
theorem bn1 : Mp.Bnd (1, d_fits_whole) := fun _ _ _ _ _ _ us hl => match us, hl with | [_, _, _], _ => rfl
theorem ok2 : Mp.DOk tx.g tx.b T (2, d_fits_row) := ⟨b2, rfl, by kernel_rfl, rfl, rfl, ⟨rfl, rfl, rfl, by decide +kernel, rfl, by decide +kernel, by decide +kernel⟩⟩
theorem bn2 : Mp.Bnd (2, d_fits_row) := fun _ _ _ _ _ _ us hl => match us, hl with | [_], _ => rfl
theorem ok3 : Mp.DOk tx.g tx.b T (3, d_fits_list) := ⟨b3, rfl, by kernel_rfl, rfl, rfl, ⟨rfl, rfl, rfl, by decide +kernel, rfl, by decide +kernel, by decide +kernel⟩⟩
theorem bn3 : Mp.Bnd (3, d_fits_list) := fun _ _ _ _ _ _ us hl => match us, hl with | [_], _ => rfl
theorem ok4 : Mp.DOk tx.g tx.b T (4, d_fits_change) := ⟨b4, rfl, by kernel_rfl, rfl, rfl, ⟨rfl, rfl, rfl, by decide +kernel, rfl, by decide +kernel, by decide +kernel⟩⟩
theorem bn4 : Mp.Bnd (4, d_fits_change) := fun _ _ _ _ _ _ us hl => match us, hl with | [_], _ => rfl
theorem ok5 : Mp.DOk tx.g tx.b T (5, d_need_list) := ⟨b5, rfl, by kernel_rfl, rfl, rfl, ⟨rfl, rfl, rfl, by decide +kernel, rfl, by decide +kernel, by decide +kernel⟩⟩
theorem bn5 : Mp.Bnd (5, d_need_list) := fun _ _ _ _ _ _ us hl => match us, hl with | [_], _ => rfl
theorem ok6 : Mp.DOk tx.g tx.b T (6, d_is_list) := ⟨b6, rfl, by kernel_rfl, rfl, rfl, ⟨rfl, rfl, rfl, by decide +kernel, rfl, by decide +kernel, by decide +kernel⟩⟩
theorem bn6 : Mp.Bnd (6, d_is_list) := fun _ _ _ _ _ _ us hl => match us, hl with | [_], _ => rfl
theorem ok7 : Mp.DOk tx.g tx.b T (7, d_fits_step) := ⟨b7, rfl, by kernel_rfl, rfl, rfl, ⟨rfl, rfl, rfl, by decide +kernel, rfl, by decide +kernel, by decide +kernel⟩⟩
theorem bn7 : Mp.Bnd (7, d_fits_step) := fun _ _ _ _ _ _ us hl => match us, hl with | [_], _ => rfl
theorem ok8 : Mp.DOk tx.g tx.b T (8, d_fits_history) := ⟨b8, rfl, by kernel_rfl, rfl, rfl, ⟨rfl, rfl, rfl, by decide +kernel, rfl, by decide +kernel, by decide +kernel⟩⟩
theorem bn8 : Mp.Bnd (8, d_fits_history) := fun _ _ _ _ _ _ us hl => match us, hl with | [_], _ => rfl
theorem ok9 : Mp.DOk tx.g tx.b T (9, d_is_history) := ⟨b9, rfl, by kernel_rfl, rfl, rfl, ⟨rfl, rfl, rfl, by decide +kernel, rfl, by decide +kernel, by decide +kernel⟩⟩
theorem bn9 : Mp.Bnd (9, d_is_history) := fun _ _ _ _ _ _ us hl => match us, hl with | [_], _ => rfl
theorem ok10 : Mp.DOk tx.g tx.b T (10, d_without) := ⟨b10, rfl, by kernel_rfl, rfl, rfl, ⟨rfl, rfl, rfl, by decide +kernel, rfl, by decide +kernel, by decide +kernel⟩⟩
theorem bn10 : Mp.Bnd (10, d_without) := fun _ _ _ _ _ _ us hl => match us, hl with | [_, _], _ => rfl
theorem ok11 : Mp.DOk tx.g tx.b T (11, d_lower_row) := ⟨b11, rfl, by kernel_rfl, rfl, rfl, ⟨rfl, rfl, rfl, by decide +kernel, rfl, by decide +kernel, by decide +kernel⟩⟩
theorem bn11 : Mp.Bnd (11, d_lower_row) := fun _ _ _ _ _ _ us hl => match us, hl with | [_], _ => rfl
theorem ok12 : Mp.DOk tx.g tx.b T (12, d_shrinks_in) := ⟨b12, rfl, by kernel_rfl, rfl, rfl, ⟨rfl, rfl, rfl, by decide +kernel, rfl, by decide +kernel, by decide +kernel⟩⟩
theorem bn12 : Mp.Bnd (12, d_shrinks_in) := fun _ _ _ _ _ _ us hl => match us, hl with | [_, _], _ => rfl
theorem ok13 : Mp.DOk tx.g tx.b T (13, d_weight_in) := ⟨b13, rfl, by kernel_rfl, rfl, rfl, ⟨rfl, rfl, rfl, by decide +kernel, rfl, by decide +kernel, by decide +kernel⟩⟩
theorem bn13 : Mp.Bnd (13, d_weight_in) := fun _ _ _ _ _ _ us hl => match us, hl with | [_, _], _ => rfl
theorem ok14 : Mp.DOk tx.g tx.b T (14, d_need_two) := ⟨b14, rfl, by kernel_rfl, rfl, rfl, ⟨rfl, rfl, rfl, by decide +kernel, rfl, by decide +kernel, by decide +kernel⟩⟩
theorem bn14 : Mp.Bnd (14, d_need_two) := fun _ _ _ _ _ _ us hl => match us, hl with | [_, _], _ => rfl
theorem ok15 : Mp.DOk tx.g tx.b T (15, d_weight_of) := ⟨b15, rfl, by kernel_rfl, rfl, rfl, ⟨rfl, rfl, rfl, by decide +kernel, rfl, by decide +kernel, by decide +kernel⟩⟩
theorem bn15 : Mp.Bnd (15, d_weight_of) := fun _ _ _ _ _ _ us hl => match us, hl with | [_, _], _ => rfl
theorem ok16 : Mp.DOk tx.g tx.b T (16, d_shrinks_of) := ⟨b16, rfl, by kernel_rfl, rfl, rfl, ⟨rfl, rfl, rfl, by decide +kernel, rfl, by decide +kernel, by decide +kernel⟩⟩
theorem bn16 : Mp.Bnd (16, d_shrinks_of) := fun _ _ _ _ _ _ us hl => match us, hl with | [_, _], _ => rfl
theorem ok17 : Mp.DOk tx.g tx.b T (17, d__law_cup) := ⟨b17, rfl, by kernel_rfl, rfl, rfl, ⟨rfl, rfl, rfl, by decide +kernel, rfl, by decide +kernel, by decide +kernel⟩⟩
theorem bn17 : Mp.Bnd (17, d__law_cup) := fun _ _ _ _ _ _ us hl => match us, hl with | [_], _ => rfl
theorem ok18 : Mp.DOk tx.g tx.b T (18, d__law_roll) := ⟨b18, rfl, by kernel_rfl, rfl, rfl, ⟨rfl, rfl, rfl, by decide +kernel, rfl, by decide +kernel, by decide +kernel⟩⟩
theorem bn18 : Mp.Bnd (18, d__law_roll) := fun _ _ _ _ _ _ us hl => match us, hl with | [_, _], _ => rfl
theorem ok19 : Mp.DOk tx.g tx.b T (19, d__law_some) := ⟨b19, rfl, by kernel_rfl, rfl, rfl, ⟨rfl, rfl, rfl, by decide +kernel, rfl, by decide +kernel, by decide +kernel⟩⟩
theorem bn19 : Mp.Bnd (19, d__law_some) := fun _ _ _ _ _ _ us hl => match us, hl with | [_, _], _ => rfl
theorem ok20 : Mp.DOk tx.g tx.b T (20, d__law_same) := ⟨b20, rfl, by kernel_rfl, rfl, rfl, ⟨rfl, rfl, rfl, by decide +kernel, rfl, by decide +kernel, by decide +kernel⟩⟩
theorem bn20 : Mp.Bnd (20, d__law_same) := fun _ _ _ _ _ _ us hl => match us, hl with | [_, _], _ => rfl
theorem ok21 : Mp.DOk tx.g tx.b T (21, d__law_list) := ⟨b21, rfl, by kernel_rfl, rfl, rfl, ⟨rfl, rfl, rfl, by decide +kernel, rfl, by decide +kernel, by decide +kernel⟩⟩
theorem bn21 : Mp.Bnd (21, d__law_list) := fun _ _ _ _ _ _ us hl => match us, hl with | [_, _], _ => rfl
theorem ok22 : Mp.DOk tx.g tx.b T (22, d__law_change) := ⟨b22, rfl, by kernel_rfl, rfl, rfl, ⟨rfl, rfl, rfl, by decide +kernel, rfl, by decide +kernel, by decide +kernel⟩⟩
theorem bn22 : Mp.Bnd (22, d__law_change) := fun _ _ _ _ _ _ us hl => match us, hl with | [_], _ => rfl
theorem ok23 : Mp.DOk tx.g tx.b T (23, d__law_history) := ⟨b23, rfl, by kernel_rfl, rfl, rfl, ⟨rfl, rfl, rfl, by decide +kernel, rfl, by decide +kernel, by decide +kernel⟩⟩
theorem bn23 : Mp.Bnd (23, d__law_history) := fun _ _ _ _ _ _ us hl => match us, hl with | [_, _], _ => rfl
theorem ok24 : Mp.DOk tx.g tx.b T (24, d__law_shrinks) := ⟨b24, rfl, by kernel_rfl, rfl, rfl, ⟨rfl, rfl, rfl, by decide +kernel, rfl, by decide +kernel, by decide +kernel⟩⟩
theorem bn24 : Mp.Bnd (24, d__law_shrinks) := fun _ _ _ _ _ _ us hl => match us, hl with | [_, _], _ => rfl
theorem ok25 : Mp.DOk tx.g tx.b T (25, d__law_weight) := ⟨b25, rfl, by kernel_rfl, rfl, rfl, ⟨rfl, rfl, rfl, by decide +kernel, rfl, by decide +kernel, by decide +kernel⟩⟩
theorem bn25 : Mp.Bnd (25, d__law_weight) := fun _ _ _ _ _ _ us hl => match us, hl with | [_, _], _ => rfl
theorem ok26 : Mp.DOk tx.g tx.b T (26, d_law) := ⟨b26, rfl, by kernel_rfl, rfl, rfl, ⟨rfl, rfl, rfl, by decide +kernel, rfl, by decide +kernel, by decide +kernel⟩⟩
theorem bn26 : Mp.Bnd (26, d_law) := fun _ _ _ _ _ _ us hl => match us, hl with | [_], _ => rfl
theorem oks : Mp.DfsOk tx.g tx.b tx.ds T := Mp.AllD.of (Q := Mp.DOk tx.g tx.b T) (l := tx.ds) ⟨ok0, ok1, ok2, ok3, ok4, ok5, ok6, ok7, ok8, ok9, ok10, ok11, ok12, ok13, ok14, ok15, ok16, ok17, ok18, ok19, ok20, ok21, ok22, ok23, ok24, ok25, ok26, trivial⟩
theorem bns : ∀ p ∈ tx.ds, Mp.Bnd p := Mp.AllD.of (Q := Mp.Bnd) (l := tx.ds) ⟨bn0, bn1, bn2, bn3, bn4, bn5, bn6, bn7, bn8, bn9, bn10, bn11, bn12, bn13, bn14, bn15, bn16, bn17, bn18, bn19, bn20, bn21, bn22, bn23, bn24, bn25, bn26, trivial⟩
def names0 : List PySem.Str := ["PageError", "InvalidRows", "InvalidHistory", "KEYS", "RANKS", "KEY", "RANK", "is_tuple_of", "fits_whole", "fits_row", "fits_list", "fits_change", "need_list", "is_list", "PAGE", "STEPS", "fits_step", "fits_history", "is_history", "PUT", "without", "lower_row", "shrinks_in", "weight_in", "need_two", "weight_of", "shrinks_of", "_law_cup", "_law_roll", "_law_some"]
def names1 : List PySem.Str := ["_law_same", "_law_list", "_law_change", "_law_history", "_law_shrinks", "_law_weight"]
def names : List PySem.Str := names0 ++ names1
abbrev R : PySem.W.OpenRow := PySem.W.OpenLaw.row PySem.Challenge.rw_pagesread_k82_whole_shrinks_of_histories
abbrev hk : PySem.W.Hook := He.hookX 4 tx.fa tx.fn [] [] tx.ex
def ob (s : PySem.W.SharedT) : He.AlX := He.obsX 4 tx.fa tx.fn [] [] tx.ex (HandSHeadRun.getT s)
theorem ob_eq (s : PySem.W.SharedT) : ob s = hk.obs s.abs := He.obsX_eq (HandSHeadRun.getT_eq s)
open PySem.W PySem.Calls HandSHeadRun in
theorem run (w : World) : HandSHeadRun.RunEq R (PySem.W.view R.prog [41]) hk ob 4000 names w := by
  intro os
  refine PySem.W.byRow2 "special-get-raises" (P := fun w => (HandSHeadRun.endF (HandSHeadRun.stepQ (HandSHeadRun.denQ HandSHeadRun.tabQ) R.prog w) 4000 R.prog w os).map (fun s => (HandSHeadRun.looksF R.prog (boot_heap w.params) s.abs, HandSHeadRun.seenQ (PySem.W.view R.prog [41]) names (importedModules R.prog.main.body) (fun s => PySem.W.xlAt (PySem.W.view R.prog [41]) [] s && PySem.W.recOk R.toRowW.records s) s.abs, ob s)) = some (true, PySem.W.openGood (PySem.W.view R.prog [41]) names, hk.val w)) (fun w => by kernel_rfl) (fun w => by kernel_rfl) w

theorem law_true (ns : List Int) (hn : ns.length ≤ 63) (hb : ∀ z ∈ ns, Builtin.Int.intBits z ≤ 1048576) : Mp.runs T 12 26 [.sh (.fz ns)] = .ok (.d (.bool true)) false [none] := Lb.law_k (T := T) ⟨rfl, rfl, rfl, rfl, rfl, rfl, rfl, rfl, rfl, rfl, rfl, rfl, rfl, rfl, rfl, rfl, rfl, rfl, rfl, rfl, rfl, rfl, rfl, rfl, rfl, rfl, rfl⟩ 2 ns hn
end HeadT
open PySem PySem.W PySem.Calls PyProof.Rows
theorem PySem.Challenge.cw_pagesread_k82_whole_shrinks_of_histories_holds : PySem.Challenge.rw_pagesread_k82_whole_shrinks_of_histories.Holds := by
  w_on; o_law
  refine HandSHeadRun.head_any (r := OpenLaw.row PySem.Challenge.rw_pagesread_k82_whole_shrinks_of_histories) (q := view (OpenLaw.row PySem.Challenge.rw_pagesread_k82_whole_shrinks_of_histories).prog [41]) (H := HeadT.hk) (ob := HeadT.ob) (M := 4000) (loose := HeadT.names) (d := HandSHeadRun.topDef (OpenLaw.row PySem.Challenge.rw_pagesread_k82_whole_shrinks_of_histories).prog 41) (kwd := []) HeadT.ob_eq
    (by kernel_rfl) (fun s => by kernel_rfl) HeadT.run (by kernel_rfl) (by kernel_rfl) (by kernel_rfl) (by rfl) (by first | assumption | decide +kernel) (by decide +kernel) ⟨rfl, rfl, rfl, rfl, rfl, by decide +kernel⟩ ?hw ?hc
  case hw => w_witness2
  case hc =>
    refine LamX.walk_ofTsE (l := PySem.Challenge.rw_pagesread_k82_whole_shrinks_of_histories) (n := 63) (k := 12) (x := "script") (CX := fun w => L2.CX (PySem.Challenge.rw_pagesread_k82_whole_shrinks_of_histories).prog w) rfl (by decide) (by kernel_rfl) ⟨rfl, by decide, by decide⟩ ?F (fun _ _ _ _ _ z => Mp.cx_never z)
    intro w mg fa h Y G hmg0
    obtain ⟨K, KX, c⟩ := Y
    have hmg : mg ("law" : PySem.Str) = some (.ref fa) := by
      have e : (HandSHeadRun.topDef (OpenLaw.row PySem.Challenge.rw_pagesread_k82_whole_shrinks_of_histories).prog 41).name = ("law" : PySem.Str) := by kernel_rfl
      rw [← e]
      exact hmg0
    exact ⟨K, KX, Mp.lawAt (T := HeadT.T) (i := 26) (d := HeadT.d_law) c KX G (by decide) HeadT.bns HeadT.oks (List.mem_of_getElem? (i := 26) rfl) rfl rfl hmg (by decide) HeadT.law_true⟩

