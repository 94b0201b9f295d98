import PyProof.Rows.All
import Wide.All
import OpenK.AllK
import Wide.FinOn
import HandS.ForMost
import HandS.Exc
import HandS.ExcOwn
import HandS.Lambda
import KE.SortData
import HandS.RaiseMore
import HandS.TupAny
import HandS.TupMul
import HandS.TupLe
import HandS.Style
import HandS.Deep
import HandS.IsInst
import HandS.Flow
import HandS.Sort
import KE.SortKeyHeap
import HandS.CallSlots
import HandS.SortKw
import HandS.Zip
import HandS.Iter
import KE.GoesEnum
import KE.GoesMore
import HandS.WordsExc
import HandS.Defaults
import HandS.HeadHook4
import HandS.HeadWalk
import HandS.HeadEnd
import KE.KStateDown
import HandS.Head0
import HandS.Head1
import HandS.Head2
import PySem.Challenge.RW_pagesread_k53_whole_pages_there_and_back
set_option Elab.async false
set_option linter.all false
set_option maxRecDepth 100000
set_option maxHeartbeats 4000000
/-! Mp1: plain values, how they stand in the abstract heap. -/
namespace Mp
open PySem PySem.Spec PyProof.Rows L2

abbrev P := PyData

/-- a plain value: data, a def of the text, a tuple of defs, a dict, a set -/
inductive D where
  | d (x : P)
  | fn (i : Nat)
  | fns (is : List Nat)
  /-- the law's own argument: a list that is read -/
  | fz (xs : List Int)
  | dct (ks vs : List P)

/-- what a slot of a def holds -/
inductive Sl where
  | un
  | val (x : D)
  | own (lent : Bool) (x : D)

abbrev Env := List Sl
abbrev Wd := Addr → Prop
/-- no table of code objects: these grow -/
def NT (o : HO) : Prop := ∀ ps, o ≠ .tbl ps
theorem nt_lst {xs : List V} : NT (.lst xs) := fun _ h => nomatch h
theorem nt_tup {xs : List V} : NT (.tup xs) := fun _ h => nomatch h
theorem nt_frz {o : Obj} {u : HO} : NT (.frz o u) := fun _ h => nomatch h
theorem nt_dK {kvs : List (Key × V)} : NT (.dK kvs) := fun _ h => nomatch h
theorem nt_mut {o : HO} (m : Mut (some o)) : NT o := fun _ h => by subst h; exact m

mutual
/-- data stands at v: its lists are none of W -/
inductive Rp (K : PySem.W.Frag) (W : Wd) (H : Hp) : P → V → Prop
  | non : Rp K W H .none .non
  | bl (b : Bool) : Rp K W H (.bool b) (.bl b)
  | int (i : Int) : Rp K W H (.int i) (.int i)
  | str (x : Str) : PyData.strOk x = true → x.length ≤ sizeLine → Rp K W H (.str x) (.str x)
  | lst {a : Addr} {xs : List V} {ds : List P} : H a = some (.lst xs) → ¬ W a → xs.length ≤ sizeLine → RpA K W H ds xs → Rp K W H (.list ds) (.ref a)
  | tup {a : Addr} {xs : List V} {ds : List P} : SqT K H a xs → xs.length ≤ sizeLine → RpA K W H ds xs → Rp K W H (.tuple ds) (.ref a)
inductive RpA (K : PySem.W.Frag) (W : Wd) (H : Hp) : List P → List V → Prop
  | nil : RpA K W H [] []
  | cons {v : V} {vs : List V} {d : P} {ds : List P} : Rp K W H d v → RpA K W H ds vs → RpA K W H (d :: ds) (v :: vs)
end

section
variable {K : PySem.W.Frag} {W W' : Wd} {H H' : Hp}

theorem RpA.length : ∀ {ds : List P} {vs : List V}, RpA K W H ds vs → ds.length = vs.length
  | _, _, .nil => rfl
  | _, _, .cons _ t => by simp [RpA.length t]

theorem RpA.get : ∀ {ds : List P} {vs : List V} {i : Nat} {d : P}, RpA K W H ds vs → ds[i]? = some d → ∃ v, vs[i]? = some v ∧ Rp K W H d v
  | _, _, _, _, .nil, e => by simp at e
  | _, _, 0, _, .cons r _, e => by simp at e; subst e; exact ⟨_, rfl, r⟩
  | _, _, i + 1, d, .cons _ t, e => by
    obtain ⟨v, h1, h2⟩ := RpA.get (i := i) (d := d) t (by simpa using e)
    exact ⟨v, by simpa using h1, h2⟩
theorem RpA.getV : ∀ {ds : List P} {vs : List V} {i : Nat} {v : V}, RpA K W H ds vs → vs[i]? = some v → ∃ d, ds[i]? = some d ∧ Rp K W H d v
  | _, _, _, _, .nil, e => by simp at e
  | _, _, 0, _, .cons r _, e => by simp at e; subst e; exact ⟨_, rfl, r⟩
  | _, _, i + 1, d, .cons _ t, e => by
    obtain ⟨v, h1, h2⟩ := RpA.getV (i := i) (v := d) t (by simpa using e)
    exact ⟨v, by simpa using h1, h2⟩
theorem RpA.append : ∀ {ds es : List P} {vs ws : List V}, RpA K W H ds vs → RpA K W H es ws → RpA K W H (ds ++ es) (vs ++ ws)
  | _, _, _, _, .nil, s => s
  | _, _, _, _, .cons r t, s => .cons r (RpA.append t s)
theorem RpA.take : ∀ {ds : List P} {vs : List V} (n : Nat), RpA K W H ds vs → RpA K W H (ds.take n) (vs.take n)
  | _, _, 0, _ => .nil
  | _, _, _ + 1, .nil => .nil
  | _, _, n + 1, .cons r t => .cons r (RpA.take n t)
theorem RpA.drop : ∀ {ds : List P} {vs : List V} (n : Nat), RpA K W H ds vs → RpA K W H (ds.drop n) (vs.drop n)
  | _, _, 0, r => r
  | _, _, _ + 1, .nil => .nil
  | _, _, n + 1, .cons _ t => RpA.drop n t
theorem RpA.set {d : P} {v : V} (r : Rp K W H d v) : ∀ {ds : List P} {vs : List V} (i : Nat), RpA K W H ds vs → RpA K W H (ds.set i d) (vs.set i v)
  | _, _, _, .nil => .nil
  | _, _, 0, .cons _ t => .cons r t
  | _, _, i + 1, .cons q t => .cons q (RpA.set r i t)
theorem RpA.reverse : ∀ {ds : List P} {vs : List V}, RpA K W H ds vs → RpA K W H ds.reverse vs.reverse
  | _, _, .nil => .nil
  | _, _, .cons r t => by rw [List.reverse_cons, List.reverse_cons]; exact (RpA.reverse t).append (.cons r .nil)
theorem RpA.rep {ds : List P} {vs : List V} (h : RpA K W H ds vs) : ∀ k : Nat, RpA K W H (List.replicate k ds).flatten (List.replicate k vs).flatten
  | 0 => .nil
  | k + 1 => by rw [List.replicate_succ, List.replicate_succ, List.flatten_cons, List.flatten_cons]; exact h.append (RpA.rep h k)

mutual
/-- it stays where what it leans on stays -/
theorem Rp.pers (hk : ∀ a u, H a = some u → ¬ W a → NT u → H' a = some u) (ht : ∀ a xs, Rd H a (.tup xs) → Rd H' a (.tup xs)) (hw : ∀ a u, H a = some u → ¬ W a → ¬ W' a) : ∀ (d : P) (v : V), Rp K W H d v → Rp K W' H' d v
  | .none, _, h => by cases h; exact .non
  | .bool b, _, h => by cases h; exact .bl b
  | .int b, _, h => by cases h; exact .int b
  | .str b, _, h => by cases h with | str _ h1 h2 => exact .str b h1 h2
  | .list ds, _, h => by
    cases h with
    | lst h1 h2 h3 h4 => exact .lst (hk _ _ h1 h2 nt_lst) (hw _ _ h1 h2) h3 (RpA.pers hk ht hw ds _ h4)
  | .tuple ds, _, h => by
    cases h with
    | tup h1 h2 h3 =>
      refine .tup ?_ h2 (RpA.pers hk ht hw ds _ h3)
      rcases h1 with h1 | h1
      · exact .inl (ht _ _ h1)
      · exact .inr h1
  | .dict _, _, h => by cases h
theorem RpA.pers (hk : ∀ a u, H a = some u → ¬ W a → NT u → H' a = some u) (ht : ∀ a xs, Rd H a (.tup xs) → Rd H' a (.tup xs)) (hw : ∀ a u, H a = some u → ¬ W a → ¬ W' a) : ∀ (ds : List P) (vs : List V), RpA K W H ds vs → RpA K W' H' ds vs
  | [], _, h => by cases h; exact .nil
  | d :: ds, _, h => by
    cases h with
    | cons h1 h2 => exact .cons (Rp.pers hk ht hw d _ h1) (RpA.pers hk ht hw ds _ h2)
end
mutual
theorem Rp.dp : ∀ (d : P) (v : V), Rp K W H d v → Dp K H v d
  | .none, _, h => by cases h; exact .non
  | .bool b, _, h => by cases h; exact .bl b
  | .int b, _, h => by cases h; exact .int b
  | .str b, _, h => by cases h; exact .str b
  | .list ds, _, h => by
    cases h with
    | lst h1 h2 h3 h4 => exact .lst (.inl (.inl h1)) (RpA.dp ds _ h4)
  | .tuple ds, _, h => by
    cases h with
    | tup h1 h2 h3 => exact .tup h1 (RpA.dp ds _ h3)
  | .dict _, _, h => by cases h
theorem RpA.dp : ∀ (ds : List P) (vs : List V), RpA K W H ds vs → DpAll K H vs ds
  | [], _, h => by cases h; exact .nil
  | d :: ds, _, h => by
    cases h with
    | cons h1 h2 => exact .cons (Rp.dp d _ h1) (RpA.dp ds _ h2)
end
mutual
theorem Rp.can : ∀ (d : P) (v : V), Rp K W H d v → d.canLay0 = true
  | .none, _, h => rfl
  | .bool b, _, h => rfl
  | .int b, _, h => rfl
  | .str b, _, h => by cases h with | str _ h1 h2 => exact h1
  | .list ds, _, h => by
    cases h with
    | lst h1 h2 h3 h4 => exact RpA.can ds _ h4
  | .tuple ds, _, h => by
    cases h with
    | tup h1 h2 h3 => exact RpA.can ds _ h3
  | .dict _, _, h => by cases h
theorem RpA.can : ∀ (ds : List P) (vs : List V), RpA K W H ds vs → PyData.canLayAll0 ds = true
  | [], _, h => rfl
  | d :: ds, _, h => by
    cases h with
    | cons h1 h2 =>
      show (d.canLay0 && PyData.canLayAll0 ds) = true
      rw [Rp.can d _ h1, RpA.can ds _ h2]; rfl
end
end

/-- a list's write leaves the tables -/
theorem _root_.LamX.Tabs.write {T : List (Addr × Str)} {H : Hp} {a : Addr} {xs : List V} {o : HO} (t : LamX.Tabs T H) (h : H a = some (.lst xs)) : LamX.Tabs T (upd H a o) := fun p hp => by
  obtain ⟨ps, h1, h2, h3⟩ := t p hp
  refine ⟨ps, by rw [upd_ne (fun z => by rw [z, h] at h1; cases h1)]; exact h1, h2, fun pos cv hc => ?_⟩
  obtain ⟨c, e1, e2⟩ := h3 pos cv hc
  refine ⟨c, e1, ?_⟩
  rw [upd_ne (fun z => by rw [z, h] at e2; unfold LamX.CodeO at e2; cases e2)]
  exact e2
/-! ### values of D, contents of slots, slots -/
/-- where the defs of the text stand -/
abbrev FA := Nat → Addr
/-- .. and the tables of the defs that make lambdas -/
structure FT where
  f : Nat → Addr
  t : List (Addr × Str)
instance : CoeFun FT (fun _ => Nat → Addr) := ⟨FT.f⟩

def dctK : P → Option Key
  | .int i => some (.inl i)
  | .str x => some (.inr x)
  | _ => none

/-- a dict at a: keys ints and texts -/
def RpDct (K : PySem.W.Frag) (W : Wd) (H : Hp) (ks vs : List P) (a : Addr) : Prop :=
  ∃ kvs : List (Key × V), Rd H a (.dK kvs) ∧ kvs.length ≤ sizeLine ∧ ks.map dctK = kvs.map (fun p => some p.1) ∧ RpA K W H vs (kvs.map (·.2))

/-- a list that nobody writes: the caller's, or the module's -/
def FzL (K : PySem.W.Frag) (W : Wd) (H : Hp) (a : Addr) (xs : List V) : Prop :=
  (∃ o, H a = some (.frz o (.lst xs))) ∨ (H a = some (.lst xs) ∧ ¬ W a) ∨ ∃ (o : Obj) (its : Array Value) (n : Nat), K.lookup a = some o ∧ o.cls = .type "list" ∧ o.dict = none ∧ o.data = .seq its n ∧ its.size ≤ sizeLine ∧ Vals xs its.toList
theorem FzL.sq {K : PySem.W.Frag} {W : Wd} {H : Hp} {a : Addr} {xs : List V} (h : FzL K W H a xs) : SqL K H a xs := h.elim (fun ⟨o, e⟩ => .inl (.inr ⟨o, e⟩)) fun h => h.elim (fun ⟨e, _⟩ => .inl (.inl e)) .inr
theorem FzL.of {K : PySem.W.Frag} {H : Hp} {a : Addr} {xs : List V} (h : SqL K H a xs) : FzL K (fun _ => False) H a xs := h.elim (fun h => h.elim (fun e => .inr (.inl ⟨e, id⟩)) fun ⟨o, e⟩ => .inl ⟨o, e⟩) fun h => .inr (.inr h)
def RpD (K : PySem.W.Frag) (fa : FT) (W : Wd) (H : Hp) : D → V → Prop
  | .d x, v => Rp K W H x v
  | .fn i, v => v = V.ref (fa i)
  | .fns is, v => ∃ a, v = V.ref a ∧ SqT K H a (is.map fun i => V.ref (fa i)) ∧ is.length ≤ sizeLine
  | .fz xs, v => xs.length ≤ 16777216 ∧ ∃ a, v = V.ref a ∧ FzL K W H a (xs.map V.int)
  | .dct ks vs, v => ∃ a, v = V.ref a ∧ ¬ W a ∧ RpDct K W H ks vs a
/-- the content of an owned object at a (it is written: tracked itself) -/
def RpO (K : PySem.W.Frag) (W : Wd) (H : Hp) : D → Addr → Prop
  | .d (.list ds), a => ∃ xs, H a = some (.lst xs) ∧ xs.length ≤ sizeLine ∧ RpA K W H ds xs
  | .dct ks vs, a => ∃ kvs : List (Key × V), H a = some (.dK kvs) ∧ kvs.length ≤ sizeLine ∧ ks.map dctK = kvs.map (fun p => some p.1) ∧ RpA K W H vs (kvs.map (·.2))
  | _, _ => False

/-- the owned addresses of a def's slots -/
def Ow (ρ : Env) (σ : L2.St) (a : Addr) : Prop := ∃ (i : Nat) (l : Bool) (x : D), ρ[i]? = some (Sl.own l x) ∧ σ[i]? = some (some (V.ref a))

structure RS (K : PySem.W.Frag) (fa : FT) (W : Wd) (ρ : Env) (σ : L2.St) (H : Hp) : Prop where
  len : ρ.length = σ.length
  val : ∀ (i : Nat) (x : D), ρ[i]? = some (Sl.val x) → ∃ v, σ[i]? = some (some v) ∧ RpD K fa W H x v
  own : ∀ (i : Nat) (l : Bool) (x : D), ρ[i]? = some (Sl.own l x) → ∃ a, σ[i]? = some (some (V.ref a)) ∧ W a ∧ RpO K W H x a
  inj : ∀ (i j : Nat) (l l' : Bool) (x x' : D) (a : Addr), ρ[i]? = some (Sl.own l x) → ρ[j]? = some (Sl.own l' x') → σ[i]? = some (some (V.ref a)) → σ[j]? = some (some (V.ref a)) → i = j
  dom : ∀ a, W a → ∃ o, H a = some o ∧ Mut (some o)
  tab : LamX.Tabs fa.t H

/-- from state to state along statements -/
structure Fx (K : PySem.W.Frag) (fa : FT) (W : Wd) (ρ : Env) (σ : L2.St) (H : Hp) (W' : Wd) (ρ' : Env) (σ' : L2.St) (H' : Hp) : Prop where
  rs : RS K fa W' ρ' σ' H'
  fr : ∀ a o, H a = some o → ¬ Ow ρ σ a → NT o → H' a = some o
  ow : ∀ a, Ow ρ' σ' a → Ow ρ σ a ∨ H a = none
  wg : ∀ a, W' a → W a ∨ H a = none
  wk : ∀ a, W a → W' a ∨ Ow ρ σ a
  dm : ∀ a, H a ≠ none → H' a ≠ none
  ln : ∀ (i : Nat) (x : D), ρ[i]? = some (Sl.own true x) → ∃ x', ρ'[i]? = some (Sl.own true x') ∧ σ'[i]? = σ[i]?

/-- along an expression: the slots stand where they stood, what is owned is owned -/
structure FxE (K : PySem.W.Frag) (fa : FT) (W : Wd) (ρ : Env) (σ : L2.St) (H : Hp) (W' : Wd) (ρ' : Env) (H' : Hp) : Prop where
  rs : RS K fa W' ρ' σ H'
  fr : ∀ a o, H a = some o → ¬ Ow ρ σ a → NT o → H' a = some o
  sh : ∀ (i : Nat) (l : Bool) (x : D), ρ[i]? = some (Sl.own l x) → ∃ x', ρ'[i]? = some (Sl.own l x')
  hs : ∀ (i : Nat) (l : Bool) (x : D), ρ'[i]? = some (Sl.own l x) → ∃ x', ρ[i]? = some (Sl.own l x')
  wm : ∀ a, W a → W' a
  wg : ∀ a, W' a → W a ∨ H a = none
  dm : ∀ a, H a ≠ none → H' a ≠ none

section
variable {K : PySem.W.Frag} {fa : FT} {W W' W1 W2 : Wd} {ρ ρ' ρ1 ρ2 : Env} {σ σ' σ1 σ2 : L2.St} {H H' H1 H2 : Hp}

theorem RS.owW (h : RS K fa W ρ σ H) {a : Addr} (o : Ow ρ σ a) : W a := by
  obtain ⟨i, l, x, e1, e2⟩ := o
  obtain ⟨b, e3, w, _⟩ := h.own i l x e1
  rw [e2] at e3; cases e3; exact w
theorem FxE.owIff (f : FxE K fa W ρ σ H W' ρ' H') (a : Addr) : Ow ρ' σ a ↔ Ow ρ σ a := by
  constructor
  · rintro ⟨i, l, x, e1, e2⟩
    obtain ⟨x', e⟩ := f.hs i l x e1
    exact ⟨i, l, x', e, e2⟩
  · rintro ⟨i, l, x, e1, e2⟩
    obtain ⟨x', e⟩ := f.sh i l x e1
    exact ⟨i, l, x', e, e2⟩
theorem FxE.refl (h : RS K fa W ρ σ H) : FxE K fa W ρ σ H W ρ H :=
  ⟨h, fun _ _ e _ _ => e, fun _ _ x e => ⟨x, e⟩, fun _ _ x e => ⟨x, e⟩, fun _ w => w, fun _ w => .inl w, fun _ e => e⟩
theorem FxE.trans (f : FxE K fa W ρ σ H W1 ρ1 H1) (g : FxE K fa W1 ρ1 σ H1 W2 ρ2 H2) : FxE K fa W ρ σ H W2 ρ2 H2 where
  rs := g.rs
  fr := fun a o e n nt => g.fr a o (f.fr a o e n nt) (fun z => n ((f.owIff a).mp z)) nt
  sh := fun i l x e => by
    obtain ⟨x', e'⟩ := f.sh i l x e
    exact g.sh i l x' e'
  hs := fun i l x e => by
    obtain ⟨x', e'⟩ := g.hs i l x e
    exact f.hs i l x' e'
  wm := fun a w => g.wm a (f.wm a w)
  wg := fun a w => by
    rcases g.wg a w with z | z
    · exact f.wg a z
    · refine .inr ?_
      cases q : H a with
      | none => rfl
      | some o => exact absurd z (f.dm a (by rw [q]; exact Option.some_ne_none o))
  dm := fun a e => g.dm a (f.dm a e)
theorem FxE.fx (f : FxE K fa W ρ σ H W' ρ' H') : Fx K fa W ρ σ H W' ρ' σ H' :=
  ⟨f.rs, f.fr, fun a z => .inl ((f.owIff a).mp z), f.wg, fun a w => .inl (f.wm a w), f.dm, fun i x e => by
    obtain ⟨x', e'⟩ := f.sh i true x e
    exact ⟨x', e', rfl⟩⟩
theorem Fx.refl (h : RS K fa W ρ σ H) : Fx K fa W ρ σ H W ρ σ H := (FxE.refl h).fx
theorem Fx.trans (h : RS K fa W ρ σ H) (f : Fx K fa W ρ σ H W1 ρ1 σ1 H1) (g : Fx K fa W1 ρ1 σ1 H1 W2 ρ2 σ2 H2) : Fx K fa W ρ σ H W2 ρ2 σ2 H2 := by
  have nn : ∀ a, H1 a = none → H a = none := fun a z => by
    cases q : H a with
    | none => rfl
    | some o => exact absurd z (f.dm a (by rw [q]; exact Option.some_ne_none o))
  refine ⟨g.rs, fun a o e n nt => ?_, fun a z => ?_, fun a w => ?_, fun a w => ?_, fun a e => g.dm a (f.dm a e), fun i x e => ?_⟩
  · refine g.fr a o (f.fr a o e n nt) (fun z => ?_) nt
    rcases f.ow a z with y | y
    · exact n y
    · rw [e] at y; cases y
  · rcases g.ow a z with y | y
    · exact f.ow a y
    · exact .inr (nn a y)
  · rcases g.wg a w with z | z
    · exact f.wg a z
    · exact .inr (nn a z)
  · rcases f.wk a w with z | z
    · rcases g.wk a z with y | y
      · exact .inl y
      · rcases f.ow a y with u | u
        · exact .inr u
        · obtain ⟨o, e, _⟩ := h.dom a w
          rw [e] at u; cases u
    · exact .inr z
  · obtain ⟨x', e1, e2⟩ := f.ln i x e
    obtain ⟨x'', e3, e4⟩ := g.ln i x' e1
    exact ⟨x'', e3, e4.trans e2⟩

/-! persistence -/
/-- what must stay for a value to stay -/
structure Stay (W : Wd) (H : Hp) (W' : Wd) (H' : Hp) : Prop where
  k : ∀ a o, H a = some o → ¬ W a → NT o → H' a = some o
  w : ∀ a, W' a → W a ∨ H a = none
  m : ∀ a, W a → ∃ o, H a = some o ∧ Mut (some o)

theorem Stay.rd (s : Stay W H W' H') {a : Addr} {u : HO} (r : Rd H a u) (n : ¬ W a) (nt : NT u) : Rd H' a u := by
  rcases r with r | ⟨o, r⟩
  · exact .inl (s.k _ _ r n nt)
  · exact .inr ⟨o, s.k _ _ r n nt_frz⟩
theorem Stay.nw (s : Stay W H W' H') {a : Addr} {u : HO} (r : Rd H a u) (n : ¬ W a) : ¬ W' a := fun z => by
  rcases s.w a z with y | y
  · exact n y
  · rcases r with r | ⟨o, r⟩ <;> (rw [r] at y; cases y)
theorem Stay.tup (s : Stay W H W' H') {a : Addr} {xs : List V} (r : Rd H a (.tup xs)) : Rd H' a (.tup xs) := by
  have n : ¬ W a := fun z => by
    obtain ⟨o, e, mu⟩ := s.m a z
    rcases r with r | ⟨o', r⟩
    · rw [r] at e; cases e; exact mu
    · rw [r] at e; cases e; exact mu
  exact s.rd r n nt_tup
theorem Stay.sqT (s : Stay W H W' H') {a : Addr} {xs : List V} (r : SqT K H a xs) : SqT K H' a xs := by
  rcases r with r | r
  · exact .inl (s.tup r)
  · exact .inr r
theorem Stay.rp (s : Stay W H W' H') {d : P} {v : V} (r : Rp K W H d v) : Rp K W' H' d v :=
  Rp.pers (fun _ _ r n nt => s.k _ _ r n nt) (fun _ _ r => s.tup r) (fun _ _ r n => s.nw (.inl r) n) d v r
theorem Stay.rpA (s : Stay W H W' H') {d : List P} {v : List V} (r : RpA K W H d v) : RpA K W' H' d v :=
  RpA.pers (fun _ _ r n nt => s.k _ _ r n nt) (fun _ _ r => s.tup r) (fun _ _ r n => s.nw (.inl r) n) d v r
theorem Stay.rpD (s : Stay W H W' H') {x : D} {v : V} (r : RpD K fa W H x v) : RpD K fa W' H' x v := by
  cases x with
  | d x => exact s.rp r
  | fn i => exact r
  | fns is =>
    obtain ⟨a, e, h1, h2⟩ := r
    exact ⟨a, e, s.sqT h1, h2⟩
  | fz xs =>
    obtain ⟨z, a, e, h⟩ := r
    refine ⟨z, a, e, ?_⟩
    rcases h with ⟨o, h⟩ | ⟨h, n⟩ | h
    · refine .inl ⟨o, s.k _ _ h (fun z => ?_) nt_frz⟩
      obtain ⟨o', e', mu⟩ := s.m a z
      rw [h] at e'; cases e'; exact mu
    · exact .inr (.inl ⟨s.k _ _ h n nt_lst, s.nw (.inl h) n⟩)
    · exact .inr (.inr h)
  | dct ks vs =>
    obtain ⟨a, e, n, kvs, h1, h2, h3, h4⟩ := r
    exact ⟨a, e, s.nw h1 n, kvs, s.rd h1 n nt_dK, h2, h3, s.rpA h4⟩
theorem Stay.rpO (s : Stay W H W' H') {x : D} {a : Addr} (r : RpO K W H x a) (h : ∀ o, NT o → H a = some o → H' a = some o) : RpO K W' H' x a := by
  cases x with
  | d x =>
    cases x with
    | list ds =>
      obtain ⟨xs, h1, h2, h3⟩ := r
      exact ⟨xs, h _ nt_lst h1, h2, s.rpA h3⟩
    | _ => exact r.elim
  | dct ks vs =>
    obtain ⟨kvs, h1, h2, h3, h4⟩ := r
    exact ⟨kvs, h _ nt_dK h1, h2, h3, s.rpA h4⟩
  | _ => exact r.elim
theorem Stay.refl (m : ∀ a, W a → ∃ o, H a = some o ∧ Mut (some o)) : Stay W H W H := ⟨fun _ _ e _ _ => e, fun _ w => .inl w, m⟩
theorem FxE.stay (h : RS K fa W ρ σ H) (f : FxE K fa W ρ σ H W' ρ' H') : Stay W H W' H' :=
  ⟨fun a o e n nt => f.fr a o e (fun z => n (h.owW z)) nt, f.wg, h.dom⟩
theorem Fx.stay (h : RS K fa W ρ σ H) (f : Fx K fa W ρ σ H W' ρ' σ' H') : Stay W H W' H' :=
  ⟨fun a o e n nt => f.fr a o e (fun z => n (h.owW z)) nt, f.wg, h.dom⟩
/-- a heap that only grows -/
theorem Stay.grow (m : ∀ a, W a → ∃ o, H a = some o ∧ Mut (some o)) (k : ∀ a o, H a = some o → H' a = some o) : Stay W H W H' := ⟨fun a o e _ _ => k a o e, fun _ w => .inl w, m⟩
theorem RS.grow (h : RS K fa W ρ σ H) (k : ∀ a o, H a = some o → H' a = some o) : RS K fa W ρ σ H' := by
  have s : Stay W H W H' := Stay.grow h.dom k
  refine ⟨h.len, fun i x e => ?_, fun i l x e => ?_, h.inj, fun a w => ?_, h.tab.ext k⟩
  · obtain ⟨v, e1, r⟩ := h.val i x e
    exact ⟨v, e1, s.rpD r⟩
  · obtain ⟨a, e1, w, r⟩ := h.own i l x e
    exact ⟨a, e1, w, s.rpO r fun o _ => k a o⟩
  · obtain ⟨o, e, m⟩ := h.dom a w
    exact ⟨o, k a o e, m⟩
theorem FxE.grow (h : RS K fa W ρ σ H) (k : ∀ a o, H a = some o → H' a = some o) : FxE K fa W ρ σ H W ρ H' :=
  ⟨h.grow k, fun a o e _ _ => k a o e, fun _ _ x e => ⟨x, e⟩, fun _ _ x e => ⟨x, e⟩, fun _ w => w, fun _ w => .inl w, fun a e => by
    cases q : H a with
    | none => exact absurd q e
    | some o => rw [k a o q]; exact Option.some_ne_none o⟩
theorem RS.notW (h : RS K fa W ρ σ H) {a : Addr} (n : H a = none) : ¬ W a := fun w => by
  obtain ⟨o, e, _⟩ := h.dom a w
  rw [n] at e; cases e
theorem grow_upd {p : Addr} {o : HO} (n : H p = none) : ∀ a u, H a = some u → upd H p o a = some u := fun a u e => by
  rw [upd_ne (ne_of_none e n)]; exact e
end
end Mp

set_option maxRecDepth 100000
set_option maxHeartbeats 4000000
/-! Mp2: the little language, what its operations and programs are worth on plain values. -/
namespace Mp
open PySem L2

inductive RV where
  | sh (x : D) | fr (x : D) | br (j : Nat)
/-- an own exception: the class's number, its fields -/
structure Ex where
  c : Nat
  fs : List P
inductive R (α : Type) where
  | ok (a : α) (ρ : Env) | ex (e : Ex) (ρ : Env) | bad
@[simp] def R.bind {α β : Type} (r : R α) (k : α → Env → R β) : R β :=
  match r with
  | .ok a ρ => k a ρ
  | .ex e ρ => .ex e ρ
  | .bad => .bad
inductive Arg where
  | sh (x : D) | ln (x : D)
inductive FR where
  | ok (x : D) (fresh : Bool) (bk : List (Option D)) | ex (e : Ex) (bk : List (Option D)) | bad
abbrev Fs := Nat → List Arg → FR

/-! ### operations on data -/
def b2z (b : Bool) : Int := if b then 1 else 0
def addP : P → P → Option P
  | .int i, .int j => some (.int (i + j))
  | .str x, .str y => if x.length + y.length ≤ 16777216 then some (.str (x ++ y)) else none
  | .tuple xs, .tuple ys => if xs.length + ys.length ≤ 16777216 then some (.tuple (xs ++ ys)) else none
  | .list xs, .list ys => if xs.length + ys.length ≤ 16777216 then some (.list (xs ++ ys)) else none
  | _, _ => none
def subP : P → P → Option P
  | .int i, .int j => some (.int (i - j))
  | _, _ => none
def smallI (i : Int) : Bool := decide (-18446744073709551616 < i) && decide (i < 18446744073709551616)
def mulP : P → P → Option P
  | .int i, .int j => if smallI i || smallI j then some (.int (i * j)) else none
  | .list xs, .int k => if xs.length * k.toNat ≤ 16777216 ∧ -1000000 ≤ k ∧ k ≤ 1000000 then some (.list (List.replicate k.toNat xs).flatten) else none
  | .tuple xs, .int k => if xs ≠ [] ∧ 2 ≤ k ∧ k ≤ 1000 ∧ xs.length ≤ 1000 then some (.tuple (List.replicate k.toNat xs).flatten) else none
  | _, _ => none
def fdivP : P → P → Option P
  | .int i, .int j => if 0 < j ∧ j < 1073741824 then some (.int (i / j)) else none
  | _, _ => none
def modP : P → P → Option P
  | .int i, .int j => if 0 < j then some (.int (i % j)) else none
  | _, _ => none
def powP : P → P → Option P
  | .int i, .int j => if 0 ≤ j ∧ j ≤ 1000 ∧ -1000000 ≤ i ∧ i ≤ 1000000 then some (.int (i ^ j.toNat)) else none
  | _, _ => none
def negP : P → Option P
  | .int i => some (.int (-i))
  | _ => none
def eqP (a b : P) : Option Bool := if min a.depth b.depth ≤ 64 then some (PyData.eqv a b) else none
def isNoneP : P → Bool
  | .none => true
  | _ => false
def isP : P → P → Option Bool
  | x, .none => some (isNoneP x)
  | .bool a, .bool b => some (a == b)
  | _, _ => none
def intsP : List P → Option (List Int)
  | [] => some []
  | .int i :: r => (intsP r).map (i :: ·)
  | _ => none
def ltP : P → P → Option Bool
  | .int i, .int j => some (decide (i < j))
  | .tuple xs, .tuple ys => match intsP xs, intsP ys with
    | some a, some b => some (HT.lexLt a b)
    | _, _ => none
  | _, _ => none
def leP : P → P → Option Bool
  | .int i, .int j => some (decide (i ≤ j))
  | .tuple xs, .tuple ys => match intsP xs, intsP ys with
    | some a, some b => some (!HT.lexLt b a)
    | _, _ => none
  | _, _ => none
def inP (x : P) : P → Option Bool
  | .list xs => if min (PyData.depthAll xs) x.depth ≤ 62 then some (xs.any fun y => PyData.eqv y x) else none
  | .tuple xs => if min (PyData.depthAll xs) x.depth ≤ 62 then some (xs.any fun y => PyData.eqv y x) else none
  | _ => none
inductive BOp where
  | add | sub | mul | fdiv | mod | pow
  deriving DecidableEq
def BOp.f : BOp → P → P → Option P
  | .add => addP | .sub => subP | .mul => mulP | .fdiv => fdivP | .mod => modP | .pow => powP
inductive COp where
  | eq | ne | lt | le | gt | ge | is | isnot | in_ | notin
  deriving DecidableEq
def COp.f : COp → P → P → Option Bool
  | .eq, a, b => eqP a b
  | .ne, a, b => (eqP a b).map (!·)
  | .lt, a, b => ltP a b
  | .gt, a, b => ltP b a
  | .le, a, b => leP a b
  | .ge, a, b => leP b a
  | .is, a, b => isP a b
  | .isnot, a, b => (isP a b).map (!·)
  | .in_, a, b => inP a b
  | .notin, a, b => (inP a b).map (!·)
def truP : P → Bool
  | .none => false
  | .bool b => b
  | .int i => i != 0
  | .str x => (x.length : Int) != 0
  | .list xs => !xs.isEmpty
  | .tuple xs => !xs.isEmpty
  | .dict _ => false
def ixP : P → P → Option P
  | .list xs, .int i => atI xs i
  | .tuple xs, .int i => atI xs i
  | .str z, .int i => (atI z.cps.toList i).map fun c => .str ⟨#[c]⟩
  | _, _ => none
def cutL {α : Type} (xs : List α) (lo hi : Option Int) : List α := (xs.drop (HT.sIx xs.length 0 lo)).take (HT.sIx xs.length xs.length hi - HT.sIx xs.length 0 lo)
def cutP (lo hi : Option Int) : P → Option P
  | .list xs => some (.list (cutL xs lo hi))
  | .tuple xs => some (.tuple (cutL xs lo hi))
  | _ => none
def revP : P → Option P
  | .list xs => some (.list xs.reverse)
  | .tuple xs => some (.tuple xs.reverse)
  | _ => none
/-- built-in types, by which isinstance asks -/
inductive Ty where
  | int | bool | str | tuple | list
  deriving DecidableEq
def isiP : Ty → P → Bool
  | .int, .int _ => true
  | .int, .bool _ => true
  | .bool, .bool _ => true
  | .str, .str _ => true
  | .tuple, .tuple _ => true
  | .list, .list _ => true
  | _, _ => false
def lenP : P → Option P
  | .list xs => some (.int xs.length)
  | .tuple xs => some (.int xs.length)
  | .str x => some (.int x.length)
  | _ => none
def absP : P → Option P
  | .int i => some (.int (if i < 0 then -i else i))
  | _ => none
def intP : P → Option P
  | .int i => some (.int i)
  | .bool b => some (.int (b2z b))
  | _ => none
def boolsP : List P → Option (List Bool)
  | [] => some []
  | .bool b :: r => (boolsP r).map (b :: ·)
  | _ => none
def allP : P → Option P
  | .list xs => (boolsP xs).map fun bs => .bool (bs.all id)
  | _ => none
def anyP : P → Option P
  | .list xs => (boolsP xs).map fun bs => .bool (bs.any id)
  | _ => none
def tupP : P → Option P
  | .list xs => some (.tuple xs)
  | .tuple xs => some (.tuple xs)
  | _ => none
def lstP : P → Option P
  | .list xs => some (.list xs)
  | .tuple xs => some (.list xs)
  | _ => none
def sumP : P → Option P
  | .list xs => (intsP xs).map fun ns => .int ns.sum
  | _ => none
def strP : P → Option P
  | .str x => some (.str x)
  | _ => none
def tupNE : P → Bool
  | .tuple (_ :: _) => true
  | _ => false
def notNT : P → Bool
  | .none => false
  | .tuple _ => false
  | _ => true
mutual
/-- no list, no dict -/
def noL : P → Bool
  | .list _ => false
  | .dict _ => false
  | .tuple xs => noLs xs
  | _ => true
def noLs : List P → Bool
  | [] => true
  | x :: xs => noL x && noLs xs
end
/-- what may be sorted -/
def sortOk (ds : List P) : Bool := (ds.all fun d => ds.all fun d' => PySem.W.alike d d') && (ds.all tupNE || ds.all notNT) && decide (PyData.depthAll ds ≤ 60)
/-- sorting by insertion: what the kernel computes -/
def insB {α : Type} (le : α → α → Bool) (a : α) : List α → List α
  | [] => [a]
  | b :: l => if le a b then a :: b :: l else b :: insB le a l
def isortB {α : Type} (le : α → α → Bool) : List α → List α
  | [] => []
  | a :: l => insB le a (isortB le l)
def sortP (ds : List P) : List P := isortB (PySem.W.dataLe false fun x => x) ds
def sortedP : P → Option P
  | .list ds => if sortOk ds then some (.list (sortP ds)) else none
  | _ => none
def bestI (le : Int → Int → Bool) : Int → List Int → Int
  | n, [] => n
  | n, y :: ns => bestI le (if le n y then y else n) ns
def maxP : P → Option P
  | .list ds => (match intsP ds with
    | some (n :: ns) => some (.int (bestI (fun a b => decide (a ≤ b)) n ns))
    | _ => none)
  | _ => none
def minP : P → Option P
  | .list ds => (match intsP ds with
    | some (n :: ns) => some (.int (bestI (fun a b => decide (b ≤ a)) n ns))
    | _ => none)
  | _ => none
/-- the first place of what is alike -/
def idxL (y : P) : List P → Nat → Option P
  | [], _ => none
  | x :: xs, n => if PyData.eqv x y then some (.int (n : Int)) else idxL y xs (n + 1)
def idxP : P → P → Option P
  | .list xs, y => if (PyData.list xs).depth ≤ 64 ∧ y.depth ≤ 64 then idxL y xs 0 else none
  | _, _ => none
def mxP (isMax : Bool) : P → P → Option P
  | .int i, .int j => some (.int (if isMax then (if j > i then j else i) else (if j < i then j else i)))
  | _, _ => none
/-- built-in functions of one argument -/
inductive Bi where
  | len | abs | int | all | any | tuple | list | sum | str | sorted | max | min | isi (T : Ty)
  deriving DecidableEq
def Bi.f : Bi → P → Option P
  | .len => lenP | .abs => absP | .int => intP | .all => allP | .any => anyP | .tuple => tupP | .list => lstP | .sum => sumP | .str => strP | .sorted => sortedP | .max => maxP | .min => minP
  | .isi T => fun x => some (.bool (isiP T x))

/-! ### the language -/
inductive Tg where
  | nm (i : Nat) (x : Str)
  | tp (ts : List (Nat × Str))
mutual
inductive Tm where
  | var (i : Nat) (x : Str)
  | cst (c : P)
  | fn (f : Nat)
  | glob (x : Str) (c : P)
  | bin (op : BOp) (a b : Tm)
  | neg (a : Tm)
  | notE (a : Tm)
  | bop (isOr : Bool) (ts : Tms)
  | cmp (op : COp) (a b : Tm)
  | chain (op op' : COp) (a b c : Tm)
  | ife (t a b : Tm)
  | tup (ts : Tms)
  | lst (ts : Tms)
  | ix (a b : Tm)
  | sl (a : Tm) (lo hi : To)
  | rev (a : Tm)
  | call (f : Nat) (ts : Tms)
  | bi (b : Bi) (a : Tm)
  | mx (isMax : Bool) (a b : Tm)
  /-- a.index(b) -/
  | idx (a b : Tm)
  | comp (own : List (Str × Nat)) (tg : Tg) (it : Tit) (cond : To) (elt : Tm)
  /-- [elt for tg in it if cond for tg1 in it1 if cond1] -/
  | comp2 (own : List (Str × Nat)) (own1 : List Nat) (tg : Tg) (it : Tit) (cond : To) (tg1 : Tg) (it1 : Tit) (cond1 : To) (elt : Tm)
  /-- sorted(a, key=lambda p: b), the slots cs captured -/
  | sortK (p : Str) (cs : List (Nat × Str)) (b a : Tm)
inductive Tms where
  | nil | cons (t : Tm) (ts : Tms)
inductive To where
  | no | yes (t : Tm)
inductive Tit where
  | seq (t : Tm)
  | rng (t : Tm)
  | rng2 (a b : Tm)
  | rng3 (a b c : Tm)
  | zip (a b : Tm)
  | enum (t : Tm)
end
mutual
inductive Ts where
  | set (i : Nat) (x : Str) (e : Tm)
  | setT (tg : Tg) (e : Tm)
  | setP (is : List (Nat × Str)) (es : Tms)
  | setIx (i : Nat) (x : Str) (k e : Tm)
  | aug (i : Nat) (x : Str) (sub : Bool) (e : Tm)
  | app (i : Nat) (x : Str) (e : Tm)
  | expr (e : Tm)
  | ret (e : Tm)
  | ife (c : Tm) (a b : Tss)
  | forS (tg : Tg) (it : Tit) (b : Tss)
  | whl (n : Nat) (c : Tm) (b : Tss)
  | raise (c : Nat)
  | pass | brk | cont
inductive Tss where
  | nil
  | cons (t : Ts) (ts : Tss)
  | frz (i : Nat) (ts : Tss)
end

/-! ### the evaluator -/
def deref (ρ : Env) : RV → Option D
  | .sh x => some x
  | .fr x => some x
  | .br j => match ρ[j]? with
    | some (.own _ x) => some x
    | _ => none
def derefP (ρ : Env) (r : RV) : Option P := match deref ρ r with
  | some (.d x) => some x
  | _ => none
def shP (x : P) : RV := .sh (.d x)
def varE (i : Nat) (ρ : Env) : R RV := match ρ[i]? with
  | some (.val x) => .ok (.sh x) ρ
  | some (.own _ _) => .ok (.br i) ρ
  | _ => .bad
/-- a new list is nobody's yet -/
def newP : P → RV
  | .list xs => .fr (.d (.list xs))
  | x => shP x
/-- one operand; nw: the result is new -/
def un (nw : Bool) (f : P → Option P) (r : RV) (ρ : Env) : R RV := match derefP ρ r with
  | some x => (match f x with
    | some y => .ok (if nw then newP y else shP y) ρ
    | none => .bad)
  | none => .bad
def bi2 (nw : Bool) (f : P → P → Option P) (r s : RV) (ρ : Env) : R RV := match derefP ρ r, derefP ρ s with
  | some x, some y => (match f x y with
    | some z => .ok (if nw then newP z else shP z) ρ
    | none => .bad)
  | _, _ => .bad
def lstR (r : RV) (ρ : Env) : R RV := match deref ρ r with
  | some (.fz xs) => .ok (.fr (.d (.list (xs.map PyData.int)))) ρ
  | some (.d x) => (match lstP x with
    | some y => .ok (newP y) ρ
    | none => .bad)
  | _ => .bad
def cm2 (f : P → P → Option Bool) (r s : RV) (ρ : Env) : R RV := match derefP ρ r, derefP ρ s with
  | some x, some y => (match f x y with
    | some z => .ok (shP (.bool z)) ρ
    | none => .bad)
  | _, _ => .bad
def truD : D → Option Bool
  | .d x => some (truP x)
  | _ => none
def truR (r : RV) (ρ : Env) : R Bool := match deref ρ r with
  | some x => (match truD x with
    | some b => .ok b ρ
    | none => .bad)
  | none => .bad
/-- data of a list of results (an owned object does not come into a display) -/
def datas : List RV → Option (List P)
  | [] => some []
  | .sh (.d x) :: r => (datas r).map (x :: ·)
  | .fr (.d x) :: r => (datas r).map (x :: ·)
  | _ => none
def fnsOf : List RV → Option (List Nat)
  | [] => some []
  | .sh (.fn i) :: r => (fnsOf r).map (i :: ·)
  | _ => none
def tupE (rs : List RV) (ρ : Env) : R RV := if rs.length ≤ 16777216 then (match datas rs with
    | some xs => .ok (shP (.tuple xs)) ρ
    | none => (match fnsOf rs with
      | some is => .ok (.sh (.fns is)) ρ
      | none => .bad)) else .bad
def lstE (rs : List RV) (ρ : Env) : R RV := if rs.length ≤ 16777216 then (match datas rs with
    | some xs => .ok (.fr (.d (.list xs))) ρ
    | none => .bad) else .bad
/-- arguments: an owned object is lent, once -/
def argsOf (ρ : Env) : List RV → Option (List Arg)
  | [] => some []
  | .sh x :: r => (argsOf ρ r).map (.sh x :: ·)
  | .fr x :: r => (argsOf ρ r).map (.sh x :: ·)
  | .br j :: r => match ρ[j]? with
    | some (.own _ x) => (argsOf ρ r).map (.ln x :: ·)
    | _ => none
def lents : List RV → List Nat
  | [] => []
  | .br j :: r => j :: lents r
  | _ :: r => lents r
def putBk : List RV → List (Option D) → Env → Env
  | .br j :: r, some x :: b, ρ => putBk r b (match ρ[j]? with
    | some (.own l _) => ρ.set j (.own l x)
    | _ => ρ)
  | _ :: r, _ :: b, ρ => putBk r b ρ
  | _, _, ρ => ρ
def callE (Φ : Fs) (f : Nat) (rs : List RV) (ρ : Env) : R RV :=
  if (lents rs).Nodup then (match argsOf ρ rs with
    | some as => (match Φ f as with
      | .ok x fr bk => .ok (if fr then .fr x else .sh x) (putBk rs bk ρ)
      | .ex e bk => .ex e (putBk rs bk ρ)
      | .bad => .bad)
    | none => .bad) else .bad
def wipeE (ρ : Env) : List Nat → Env
  | [] => ρ
  | v :: vs => (wipeE ρ vs).set v .un
/-- behind a block the block's own names are as they were -/
def backE (ρ0 ρ : Env) : List Nat → Env
  | [] => ρ
  | v :: vs => (backE ρ0 ρ vs).set v (ρ0.getD v .un)
def setN : List (Nat × Str) → List P → Env → Option Env
  | [], [], ρ => some ρ
  | (i, _) :: r, x :: xs, ρ => match ρ[i]? with
    | some (.own true _) => none
    | some _ => setN r xs (ρ.set i (.val (.d x)))
    | none => none
  | _, _, _ => none
def setTg : Tg → D → Env → Option Env
  | .nm i _, x, ρ => match ρ[i]? with
    | some (.own true _) => none
    | some _ => some (ρ.set i (.val x))
    | none => none
  | .tp ts, .d (.tuple xs), ρ => setN ts xs ρ
  | _, _, _ => none
def rngL (a b : Int) : List D := (List.range (b - a).toNat).map fun (i : Nat) => .d (.int (a + (i : Int)))
def zipL : List P → List P → List D
  | x :: xs, y :: ys => .d (.tuple [x, y]) :: zipL xs ys
  | _, _ => []
def enumL (n : Nat) : List P → List D
  | x :: xs => .d (.tuple [.int n, x]) :: enumL (n + 1) xs
  | [] => []
def itemsD : D → Option (List D)
  | .d (.list xs) => some (xs.map .d)
  | .d (.tuple xs) => some (xs.map .d)
  | .fns is => some (is.map .fn)
  | _ => none
def shD : RV → Option D
  | .sh x => some x
  | .fr x => some x
  | .br _ => none
def seqI (r : RV) (ρ : Env) : R (List D) := match shD r with
  | some x => (match itemsD x with
    | some l => .ok l ρ
    | none => .bad)
  | none => .bad
def smallR (i : Int) : Bool := decide (-1000000000000 ≤ i) && decide (i ≤ 1000000000000)
def rngI (r s : RV) (ρ : Env) : R (List D) := match derefP ρ r, derefP ρ s with
  | some (.int a), some (.int b) => if smallR a && smallR b && decide ((b - a).toNat ≤ 16777216) then .ok (rngL a b) ρ else .bad
  | _, _ => .bad
def rng3I (r s t : RV) (ρ : Env) : R (List D) := match derefP ρ r, derefP ρ s, derefP ρ t with
  | some (.int i), some (.int j), some (.int c) => if c ≠ 0 ∧ c.natAbs < 1073741824 ∧ Builtin.Range.small i j c = true ∧ 0 ≤ Builtin.Range.rangeSize i j c ∧ Builtin.Range.rangeSize i j c ≤ 16777216 then .ok ((List.range (Builtin.Range.rangeSize i j c).toNat).map fun (k : Nat) => .d (.int (i + (k : Int) * c))) ρ else .bad
  | _, _, _ => .bad
def zipI (r s : RV) (ρ : Env) : R (List D) := match shD r, shD s with
  | some (.d (.list xs)), some (.d (.list ys)) => .ok (zipL xs ys) ρ
  | some (.d (.tuple xs)), some (.d (.tuple ys)) => .ok (zipL xs ys) ρ
  | _, _ => .bad
def enumI (r : RV) (ρ : Env) : R (List D) := match shD r with
  | some (.d (.list xs)) => .ok (enumL 0 xs) ρ
  | some (.d (.tuple xs)) => .ok (enumL 0 xs) ρ
  | _ => .bad
def toI (r : RV) (ρ : Env) : Option Int := match derefP ρ r with
  | some (.int i) => some i
  | _ => none
/-- the turns of a list comprehension -/
def compL (own : List Nat) (tg : Tg) (c : Env → R Bool) (e : Env → R RV) : List D → List P → Env → R (List P)
  | [], acc, ρ => .ok acc ρ
  | x :: xs, acc, ρ => match setTg tg x ρ with
    | none => .bad
    | some ρ1 => match c ρ1 with
      | .ok true ρ2 => (match e ρ2 with
        | .ok r ρ3 => (match datas [r] with
          | some [y] => compL own tg c e xs (acc ++ [y]) (wipeE ρ3 own)
          | _ => .bad)
        | _ => .bad)
      | .ok false ρ2 => compL own tg c e xs acc (wipeE ρ2 own)
      | _ => .bad
def compE (own : List Nat) (tg : Tg) (c : Env → R Bool) (e : Env → R RV) (items : List D) (ρ : Env) : R RV :=
  match compL own tg c e items [] (wipeE ρ own) with
  | .ok acc ρ' => .ok (.fr (.d (.list acc))) (backE ρ ρ' own)
  | _ => .bad

/-- two fors: the inner one's names own1 -/
def compL2 (own own1 : List Nat) (tg : Tg) (c : Env → R Bool) (it1 : Env → R (List D)) (tg1 : Tg) (c1 : Env → R Bool) (e : Env → R RV) : List D → List P → Env → R (List P)
  | [], acc, ρ => .ok acc ρ
  | x :: xs, acc, ρ => match setTg tg x ρ with
    | none => .bad
    | some ρ1 => match c ρ1 with
      | .ok true ρ2 => (match it1 ρ2 with
        | .ok items ρ3 => (match compL own1 tg1 c1 e items acc (wipeE ρ3 own1) with
          | .ok acc' ρ4 => compL2 own own1 tg c it1 tg1 c1 e xs acc' (wipeE ρ4 own)
          | _ => .bad)
        | _ => .bad)
      | .ok false ρ2 => compL2 own own1 tg c it1 tg1 c1 e xs acc (wipeE ρ2 own)
      | _ => .bad
def compE2 (own own1 : List Nat) (tg : Tg) (c : Env → R Bool) (it1 : Env → R (List D)) (tg1 : Tg) (c1 : Env → R Bool) (e : Env → R RV) (items : List D) (ρ : Env) : R RV :=
  match compL2 own own1 tg c it1 tg1 c1 e items [] (wipeE ρ own) with
  | .ok acc ρ' => if acc.length ≤ 16777216 then .ok (.fr (.d (.list acc))) (backE ρ ρ' own) else .bad
  | _ => .bad
/-- what a lambda captures -/
def capsE (ρ : Env) : List (Nat × Str) → Option (List P)
  | [] => some []
  | (i, _) :: r => match ρ[i]? with
    | some (.val (.d x)) => if noL x then (capsE ρ r).map (x :: ·) else none
    | _ => none
/-- the keys of items -/
def keysE (b : Env → R RV) (cs : List P) : List P → Option (List P)
  | [] => some []
  | x :: xs => match b (.val (.d x) :: cs.map fun c => .val (.d c)) with
    | .ok (.sh (.d k)) _ => if noL x && noL k then (keysE b cs xs).map (k :: ·) else none
    | _ => none
def sortKs (ks ds : List P) : List P := (isortB (PySem.W.dataLe false Prod.fst) (ks.zip ds)).map Prod.snd
def seqP : P → Option (List P)
  | .list xs => some xs
  | .tuple xs => some xs
  | _ => none
def sortKE (cs : List (Nat × Str)) (b : Env → R RV) (r : RV) (ρ : Env) : R RV := match (derefP ρ r).bind seqP, capsE ρ cs with
  | some ds, some vs => (match keysE b vs ds with
    | some ks => if sortOk ks then .ok (.fr (.d (.list (sortKs ks ds)))) ρ else .bad
    | none => .bad)
  | _, _ => .bad

/-- what an expression is worth: its value, its truth -/
structure Pr where
  v : Env → R RV
  t : Env → R Bool
def ofV (v : Env → R RV) : Pr := ⟨v, fun ρ => (v ρ).bind truR⟩
def ofT (t : Env → R Bool) : Pr := ⟨fun ρ => (t ρ).bind fun b ρ1 => .ok (shP (.bool b)) ρ1, t⟩
def evsL : List Pr → Env → R (List RV)
  | [], ρ => .ok [] ρ
  | p :: ps, ρ => (p.v ρ).bind fun r ρ1 => (evsL ps ρ1).bind fun rs ρ2 => .ok (r :: rs) ρ2
def evB (isOr : Bool) : List Pr → Env → R RV
  | [], _ => .bad
  | [p], ρ => p.v ρ
  | p :: q :: ps, ρ => (p.v ρ).bind fun r ρ1 => (truR r ρ1).bind fun b ρ2 => if b == isOr then .ok r ρ2 else evB isOr (q :: ps) ρ2
def etB (isOr : Bool) : List Pr → Env → R Bool
  | [], _ => .bad
  | [p], ρ => p.t ρ
  | p :: q :: ps, ρ => (p.t ρ).bind fun b ρ1 => if b == isOr then .ok b ρ1 else etB isOr (q :: ps) ρ1
def chainE (op op' : COp) (a b c : Env → R RV) (ρ : Env) : R RV :=
  (a ρ).bind fun r ρ1 => (b ρ1).bind fun s ρ2 => (cm2 op.f r s ρ2).bind fun t ρ3 => (truR t ρ3).bind fun k ρ4 => if k then (c ρ4).bind fun u ρ5 => cm2 op'.f s u ρ5 else .ok (shP (.bool false)) ρ4

section
variable (Φ : Fs)
mutual
def ev : Tm → Pr
  | .var i _ => ofV (varE i)
  | .cst c => ofV fun ρ => .ok (shP c) ρ
  | .fn f => ofV fun ρ => .ok (.sh (.fn f)) ρ
  | .glob _ c => ofV fun ρ => .ok (shP c) ρ
  | .bin op a b => ofV fun ρ => ((ev a).v ρ).bind fun r ρ1 => ((ev b).v ρ1).bind fun s ρ2 => bi2 true op.f r s ρ2
  | .neg a => ofV fun ρ => ((ev a).v ρ).bind fun r ρ1 => un false negP r ρ1
  | .notE a => ofT fun ρ => ((ev a).t ρ).bind fun b ρ1 => .ok (!b) ρ1
  | .bop isOr ts => ⟨evB isOr (evl ts), etB isOr (evl ts)⟩
  | .cmp op a b => ofV fun ρ => ((ev a).v ρ).bind fun r ρ1 => ((ev b).v ρ1).bind fun s ρ2 => cm2 op.f r s ρ2
  | .chain op op' a b c => ofV (chainE op op' (ev a).v (ev b).v (ev c).v)
  | .ife t a b => ofV fun ρ => ((ev t).t ρ).bind fun c ρ1 => if c then (ev a).v ρ1 else (ev b).v ρ1
  | .tup ts => ofV fun ρ => (evsL (evl ts) ρ).bind tupE
  | .lst ts => ofV fun ρ => (evsL (evl ts) ρ).bind lstE
  | .ix a b => ofV fun ρ => ((ev a).v ρ).bind fun r ρ1 => ((ev b).v ρ1).bind fun s ρ2 => bi2 false ixP r s ρ2
  | .sl a lo hi => ofV fun ρ => ((ev a).v ρ).bind fun r ρ1 => (evo lo ρ1).bind fun l ρ2 => (evo hi ρ2).bind fun h ρ3 => un true (cutP l h) r ρ3
  | .rev a => ofV fun ρ => ((ev a).v ρ).bind fun r ρ1 => un true revP r ρ1
  | .call f ts => ofV fun ρ => (evsL (evl ts) ρ).bind (callE Φ f)
  | .bi b a => ofV fun ρ => ((ev a).v ρ).bind (if b = .list then lstR else un false b.f)
  | .mx m a b => ofV fun ρ => ((ev a).v ρ).bind fun r ρ1 => ((ev b).v ρ1).bind fun s ρ2 => bi2 false (mxP m) r s ρ2
  | .idx a b => ofV fun ρ => ((ev a).v ρ).bind fun r ρ1 => match derefP ρ1 r with
    | some (.list _) => ((ev b).v ρ1).bind fun s ρ2 => bi2 false idxP r s ρ2
    | _ => .bad
  | .comp own tg it cond elt => ofV fun ρ => (evi it ρ).bind fun items ρ1 => compE (own.map (·.2)) tg (etc cond) (ev elt).v items ρ1
  | .comp2 own own1 tg it cond tg1 it1 cond1 elt => ofV fun ρ => (evi it ρ).bind fun items ρ1 => compE2 (own.map (·.2)) own1 tg (etc cond) (evi it1) tg1 (etc cond1) (ev elt).v items ρ1
  | .sortK _ cs b a => ofV fun ρ => ((ev a).v ρ).bind (sortKE cs (ev b).v)
def evl : Tms → List Pr
  | .nil => []
  | .cons t ts => ev t :: evl ts
def evo : To → Env → R (Option Int)
  | .no => fun ρ => .ok none ρ
  | .yes t => fun ρ => ((ev t).v ρ).bind fun r ρ1 => match toI r ρ1 with
    | some i => .ok (some i) ρ1
    | none => .bad
def etc : To → Env → R Bool
  | .no => fun ρ => .ok true ρ
  | .yes t => (ev t).t
def evi : Tit → Env → R (List D)
  | .seq t => fun ρ => ((ev t).v ρ).bind seqI
  | .rng t => fun ρ => ((ev t).v ρ).bind fun r ρ1 => rngI (shP (.int 0)) r ρ1
  | .rng2 a b => fun ρ => ((ev a).v ρ).bind fun r ρ1 => ((ev b).v ρ1).bind fun s ρ2 => rngI r s ρ2
  | .rng3 a b c => fun ρ => ((ev a).v ρ).bind fun r ρ1 => ((ev b).v ρ1).bind fun s ρ2 => ((ev c).v ρ2).bind fun t ρ3 => rng3I r s t ρ3
  | .zip a b => fun ρ => ((ev a).v ρ).bind fun r ρ1 => ((ev b).v ρ1).bind fun s ρ2 => zipI r s ρ2
  | .enum t => fun ρ => ((ev t).v ρ).bind enumI
end
end

/-! ### statements -/
inductive SR where
  | nx (ρ : Env) | rt (r : RV) (ρ : Env) | bk (ρ : Env) | ct (ρ : Env) | ex (e : Ex) (ρ : Env) | bad
def sOf {α : Type} (r : R α) (k : α → Env → SR) : SR := match r with
  | .ok a ρ => k a ρ
  | .ex e ρ => .ex e ρ
  | .bad => .bad
/-- a name takes a result -/
def putR (i : Nat) (r : RV) (ρ : Env) : Option Env := match ρ[i]? with
  | some (.own true _) => none
  | none => none
  | some _ => match r with
    | .sh x => some (ρ.set i (.val x))
    | .fr x => some (ρ.set i (.own false x))
    | .br _ => none
def putRs : List (Nat × Str) → List RV → Env → Option Env
  | [], [], ρ => some ρ
  | (i, _) :: is, r :: rs, ρ => (putR i r ρ).bind (putRs is rs)
  | _, _, _ => none
def nxO : Option Env → SR
  | some ρ => .nx ρ
  | none => .bad
def appE (i : Nat) (r : RV) (ρ : Env) : Option Env := match datas [r], ρ[i]? with
  | some [y], some (.own l (.d (.list xs))) => if xs.length < 16777216 then some (ρ.set i (.own l (.d (.list (xs ++ [y]))))) else none
  | _, _ => none
def dctPut : List P → List P → P → P → Option (List P × List P)
  | [], [], k, v => some ([k], [v])
  | k' :: ks, v' :: vs, k, v => if PyData.eqv k' k then some (k' :: ks, v :: vs) else (dctPut ks vs k v).map fun p => (k' :: p.1, v' :: p.2)
  | _, _, _, _ => none
def ixSet (i : Nat) (k r : RV) (ρ : Env) : Option Env := match datas [k], datas [r], ρ[i]? with
  | some [.int j], some [y], some (.own l (.d (.list xs))) => (match ixN xs.length j with
    | some n => some (ρ.set i (.own l (.d (.list (xs.set n y)))))
    | none => none)
  | _, _, _ => none
def extE (i : Nat) (r : RV) (ρ : Env) : Option Env := match derefP ρ r, ρ[i]? with
  | some (.list ys), some (.own l (.d (.list xs))) => if xs.length + ys.length ≤ 16777216 then some (ρ.set i (.own l (.d (.list (xs ++ ys))))) else none
  | _, _ => none
def augE (i : Nat) (sub : Bool) (a : Int) (r : RV) (ρ : Env) : Option Env := match derefP ρ r with
  | some (.int b) => some (ρ.set i (.val (.d (.int (if sub then a - b else a + b)))))
  | _ => none
def frzE (i : Nat) (ρ : Env) : Option Env := match ρ[i]? with
  | some (.own false x) => some (ρ.set i (.val x))
  | some (.val _) => some ρ
  | _ => none
def forL (tg : Tg) (b : Env → SR) : List D → Env → SR
  | [], ρ => .nx ρ
  | x :: xs, ρ => match setTg tg x ρ with
    | none => .bad
    | some ρ1 => match b ρ1 with
      | .nx ρ2 => forL tg b xs ρ2
      | .ct ρ2 => forL tg b xs ρ2
      | .bk ρ2 => .nx ρ2
      | r => r
def whlL (c : Env → R Bool) (b : Env → SR) : Nat → Env → SR
  | 0, _ => .bad
  | n + 1, ρ => sOf (c ρ) fun t ρ1 => if t then (match b ρ1 with
      | .nx ρ2 => whlL c b n ρ2
      | .ct ρ2 => whlL c b n ρ2
      | .bk ρ2 => .nx ρ2
      | r => r) else .nx ρ1
section
variable (Φ : Fs)
mutual
def sv : Ts → Env → SR
  | .set i _ e => fun ρ => sOf ((ev Φ e).v ρ) fun r ρ1 => nxO (putR i r ρ1)
  | .setT tg e => fun ρ => sOf ((ev Φ e).v ρ) fun r ρ1 => match shD r with
    | some x => nxO (setTg tg x ρ1)
    | none => .bad
  | .setP is es => fun ρ => sOf (evsL (evl Φ es) ρ) fun rs ρ1 => nxO (putRs is rs ρ1)
  | .setIx i _ k e => fun ρ => sOf ((ev Φ e).v ρ) fun r ρ1 => match ρ1[i]? with
    | some (.own _ (.d (.list _))) => sOf ((ev Φ k).v ρ1) fun k ρ2 => nxO (ixSet i k r ρ2)
    | _ => .bad
  | .aug i _ sub e => fun ρ => match ρ[i]? with
    | some (.val (.d (.int a))) => sOf ((ev Φ e).v ρ) fun r ρ1 => nxO (augE i sub a r ρ1)
    | some (.own _ (.d (.list _))) => if sub then .bad else sOf ((ev Φ e).v ρ) fun r ρ1 => nxO (extE i r ρ1)
    | _ => .bad
  | .app i _ e => fun ρ => match ρ[i]? with
    | some (.own _ (.d (.list _))) => sOf ((ev Φ e).v ρ) fun r ρ1 => nxO (appE i r ρ1)
    | _ => .bad
  | .expr e => fun ρ => sOf ((ev Φ e).v ρ) fun _ ρ1 => .nx ρ1
  | .ret e => fun ρ => sOf ((ev Φ e).v ρ) fun r ρ1 => .rt r ρ1
  | .ife c a b => fun ρ => sOf ((ev Φ c).t ρ) fun t ρ1 => if t then svs a ρ1 else svs b ρ1
  | .forS tg it b => fun ρ => sOf (evi Φ it ρ) fun l ρ1 => forL tg (svs b) l ρ1
  | .whl n c b => fun ρ => whlL (ev Φ c).t (svs b) n ρ
  | .raise c => fun ρ => .ex ⟨c, []⟩ ρ
  | .pass => fun ρ => .nx ρ
  | .brk => fun ρ => .bk ρ
  | .cont => fun ρ => .ct ρ
def svs : Tss → Env → SR
  | .nil => fun ρ => .nx ρ
  | .cons t ts => fun ρ => match sv t ρ with
    | .nx ρ1 => svs ts ρ1
    | r => r
  | .frz i ts => fun ρ => match frzE i ρ with
    | some ρ1 => svs ts ρ1
    | none => .bad
end
end

/-! ### a def -/
/-- one def: how many parameters, how many slots, its body -/
structure Fd where
  np : Nat
  ns : Nat
  body : Tss
def slOf : Arg → Sl
  | .sh x => .val x
  | .ln x => .own true x
def start (n : Nat) (as : List Arg) : Env := as.map slOf ++ List.replicate (n - as.length) .un
def bkOf (ρ : Env) : List Arg → Nat → Option (List (Option D))
  | [], _ => some []
  | .sh _ :: r, i => (bkOf ρ r (i + 1)).map (none :: ·)
  | .ln _ :: r, i => match ρ[i]? with
    | some (.own true x) => (bkOf ρ r (i + 1)).map (some x :: ·)
    | _ => none
def retR (ρ : Env) : RV → Option (D × Bool)
  | .sh x => some (x, false)
  | .fr x => some (x, true)
  | .br j => match ρ[j]? with
    | some (.own false x) => some (x, true)
    | _ => none
def fin (as : List Arg) (r : SR) : FR := match r with
  | .nx ρ => (match bkOf ρ as 0 with
    | some bk => .ok (.d .none) false bk
    | none => .bad)
  | .rt r ρ => (match retR ρ r, bkOf ρ as 0 with
    | some (x, fr), some bk => .ok x fr bk
    | _, _ => .bad)
  | .ex e ρ => (match bkOf ρ as 0 with
    | some bk => .ex e bk
    | none => .bad)
  | _ => .bad
def run1 (T : Nat → Option Fd) (Φ : Fs) : Fs := fun f as => match T f with
  | some d => if as.length = d.np then fin as (svs Φ d.body (start d.ns as)) else .bad
  | none => .bad
def runs (T : Nat → Option Fd) : Nat → Fs
  | 0 => fun _ _ => .bad
  | k + 1 => run1 T (runs T k)
end Mp

set_option maxRecDepth 100000
set_option maxHeartbeats 1000000
/-! MpI: sorting by insertion is sorting. -/
namespace Mp
open PySem
section
variable {α : Type} {le : α → α → Bool}
theorem insB_split (a : α) : ∀ (l1 l2 : List α), (∀ b ∈ l1, (!le a b) = true) → (∀ b ∈ l2.head?, le a b = true) → insB le a (l1 ++ l2) = l1 ++ a :: l2
  | [], [], _, _ => rfl
  | [], b :: l2, _, h => by
    show (if le a b then a :: b :: l2 else b :: insB le a l2) = _
    rw [if_pos (h b rfl)]; rfl
  | b :: l1, l2, h1, h2 => by
    show (if le a b then a :: b :: (l1 ++ l2) else b :: insB le a (l1 ++ l2)) = _
    have hb := h1 b List.mem_cons_self
    rw [if_neg (by intro z; rw [z] at hb; cases hb), insB_split a l1 l2 (fun c hc => h1 c (List.mem_cons_of_mem _ hc)) h2]
    rfl
theorem isortB_eq (tr : ∀ a b c, le a b = true → le b c = true → le a c = true) (tot : ∀ a b, (le a b || le b a) = true) : ∀ l : List α, isortB le l = l.mergeSort le
  | [] => by simp [isortB]
  | a :: l => by
    obtain ⟨l1, l2, h1, h2, h3⟩ := List.mergeSort_cons tr tot a l
    show insB le a (isortB le l) = _
    rw [isortB_eq tr tot l, h2, h1]
    refine insB_split a l1 l2 h3 fun b hb => ?_
    have pw := List.pairwise_mergeSort tr tot (a :: l)
    rw [h1, List.pairwise_append] at pw
    cases l2 with
    | nil => cases hb
    | cons c l2 =>
      cases hb
      exact (List.pairwise_cons.mp pw.2.1).1 _ List.mem_cons_self
end
theorem dataLe_TL {β : Type} (k : β → P) : PySem.W.TotalLe (PySem.W.dataLe false k) := PySem.W.sortLe_total (PyProof.Rows.listOrd PyProof.Rows.itemOrd) false fun b => PySem.W.keyToks (k b)
theorem dataLe_tot {β : Type} (k : β → P) (a b : β) : (PySem.W.dataLe false k a b || PySem.W.dataLe false k b a) = true := by
  rw [Bool.or_eq_true]
  exact (dataLe_TL k).total a b
theorem sortP_eq (ds : List P) : sortP ds = ds.mergeSort (PySem.W.dataLe false fun x => x) := isortB_eq (dataLe_TL _).trans (dataLe_tot _) ds
theorem sortKs_eq (ks ds : List P) : sortKs ks ds = ((ks.zip ds).mergeSort (PySem.W.dataLe false Prod.fst)).map Prod.snd := by
  unfold sortKs
  rw [isortB_eq (dataLe_TL _).trans (dataLe_tot _)]
end Mp

set_option maxRecDepth 100000
set_option maxHeartbeats 4000000
/-! Mp3: the operations on data are what the machine does. -/
namespace Mp
open PySem PySem.Spec PyProof.Rows L2

/-- an operand: a value, or the content of an owned list -/
def Ro (K : PySem.W.Frag) (W : Wd) (H : Hp) (x : P) (v : V) : Prop :=
  Rp K W H x v ∨ ∃ a xs ds, x = .list ds ∧ v = .ref a ∧ H a = some (.lst xs) ∧ xs.length ≤ sizeLine ∧ RpA K W H ds xs
def Dom (W : Wd) (H : Hp) : Prop := ∀ a, W a → ∃ o, H a = some o ∧ Mut (some o)
/-- a result: a list is new -/
def Rn (K : PySem.W.Frag) (W : Wd) (H : Hp) (H' : Hp) : P → V → Prop
  | .list ds, v => ∃ p xs, v = .ref p ∧ H p = none ∧ H' = upd H p (.lst xs) ∧ xs.length ≤ sizeLine ∧ RpA K W H ds xs
  | x, v => (∀ a o, H a = some o → H' a = some o) ∧ Rp K W H' x v
def rOp2 (K : PySem.W.Frag) (f : P → P → Option P) : R2 := fun x y H Q => ∃ W a b c, Dom W H ∧ Ro K W H a x ∧ Ro K W H b y ∧ f a b = some c ∧ ∀ v H', Rn K W H H' c v → Q v H'
/-- a result that is there, or a new tuple -/
def rOp2s (K : PySem.W.Frag) (f : P → P → Option P) : R2 := fun x y H Q => ∃ W a b c, Dom W H ∧ Ro K W H a x ∧ Ro K W H b y ∧ f a b = some c ∧ ∀ v H', (∀ a o, H a = some o → H' a = some o) → Rp K W H' c v → Q v H'
def rCmp (K : PySem.W.Frag) (f : P → P → Option Bool) : R2 := fun x y H Q => ∃ W a b c, Ro K W H a x ∧ Ro K W H b y ∧ f a b = some c ∧ Q (.bl c) H
def rOp1 (K : PySem.W.Frag) (f : P → Option P) : V → Hp → VK → Prop := fun x H Q => ∃ W a c, Dom W H ∧ Ro K W H a x ∧ f a = some c ∧ ∀ v H', Rn K W H H' c v → Q v H'
def rOp1s (K : PySem.W.Frag) (f : P → Option P) : V → Hp → VK → Prop := fun x H Q => ∃ W a c, Dom W H ∧ Ro K W H a x ∧ f a = some c ∧ ∀ v H', (∀ a o, H a = some o → H' a = some o) → Rp K W H' c v → Q v H'
theorem OpR.imp {X : Cx} {f : Value → Value → Sem Value} {r r' : R2} (h : OpR X f r) (hi : ∀ x y H Q, r' x y H Q → r x y H Q) : OpR X f r' := fun pins s σ H x y v u Q I rx ry q => h pins s σ H x y v u Q I rx ry (hi _ _ _ _ q)
theorem OpR.or {X : Cx} {f : Value → Value → Sem Value} {r r' : R2} (h : OpR X f r) (h' : OpR X f r') : OpR X f (fun x y H Q => r x y H Q ∨ r' x y H Q) := fun pins s σ H x y v u Q I rx ry q => q.elim (h pins s σ H x y v u Q I rx ry) (h' pins s σ H x y v u Q I rx ry)
theorem UnR.imp {X : Cx} {f : Value → Sem Value} {r r' : V → Hp → VK → Prop} (h : UnR X f r) (hi : ∀ x H Q, r' x H Q → r x H Q) : UnR X f r' := fun pins s σ H x v Q I rx q => h pins s σ H x v Q I rx (hi _ _ _ q)
theorem CallR.imp {X : Cx} {f : Value} {r r' : List V → Hp → VK → Prop} (h : CallR X f r) (hi : ∀ x H Q, r' x H Q → r x H Q) : CallR X f r' := fun pins s σ H x v Q I rx q => h pins s σ H x v Q I rx (hi _ _ _ q)
theorem IxR.imp {X : Cx} {r r' : R2} (h : IxR X r) (hi : ∀ x y H Q, r' x y H Q → r x y H Q) : IxR X r' := fun a b pins s σ H x y v u Q I rx ry q hs => h a b pins s σ H x y v u Q I rx ry (hi _ _ _ _ q) hs

section
variable {K : PySem.W.Frag} {W : Wd} {H : Hp} {v : V}
theorem ro_int {i : Int} (h : Ro K W H (.int i) v) : v = .int i := by
  rcases h with h | ⟨a, xs, ds, e, _⟩
  · cases h; rfl
  · cases e
theorem ro_bool {i : Bool} (h : Ro K W H (.bool i) v) : v = .bl i := by
  rcases h with h | ⟨a, xs, ds, e, _⟩
  · cases h; rfl
  · cases e
theorem ro_none (h : Ro K W H .none v) : v = .non := by
  rcases h with h | ⟨a, xs, ds, e, _⟩
  · cases h; rfl
  · cases e
theorem ro_str {x : Str} (h : Ro K W H (.str x) v) : v = .str x ∧ PyData.strOk x = true ∧ x.length ≤ sizeLine := by
  rcases h with h | ⟨a, xs, ds, e, _⟩
  · cases h with | str _ h1 h2 => exact ⟨rfl, h1, h2⟩
  · cases e
theorem ro_tup {ds : List P} (h : Ro K W H (.tuple ds) v) : ∃ a xs, v = .ref a ∧ SqT K H a xs ∧ xs.length ≤ sizeLine ∧ RpA K W H ds xs := by
  rcases h with h | ⟨a, xs, ds, e, _⟩
  · cases h with | tup h1 h2 h3 => exact ⟨_, _, rfl, h1, h2, h3⟩
  · cases e
theorem ro_lst {ds : List P} (h : Ro K W H (.list ds) v) : ∃ a xs, v = .ref a ∧ H a = some (.lst xs) ∧ xs.length ≤ sizeLine ∧ RpA K W H ds xs := by
  rcases h with h | ⟨a, xs, ds', e, h1, h2, h3, h4⟩
  · cases h with | lst h1 h2 h3 h4 => exact ⟨_, _, rfl, h1, h3, h4⟩
  · cases e; exact ⟨a, xs, h1, h2, h3, h4⟩
theorem Ro.dp {x : P} (h : Ro K W H x v) : Dp K H v x := by
  rcases h with h | ⟨a, xs, ds', rfl, rfl, h2, h3, h4⟩
  · exact Rp.dp _ _ h
  · exact .lst (.inl (.inl h2)) (RpA.dp _ _ h4)
theorem Ro.can {x : P} (h : Ro K W H x v) : x.canLay0 = true := by
  rcases h with h | ⟨a, xs, ds', rfl, rfl, h2, h3, h4⟩
  · exact Rp.can _ _ h
  · exact RpA.can _ _ h4
/-- a new tuple -/
theorem rp_newTup {ds : List P} {xs : List V} {p : Addr} (hd : Dom W H) (r : RpA K W H ds xs) (hz : xs.length ≤ sizeLine) (n : H p = none) : (∀ a o, H a = some o → upd H p (.tup xs) a = some o) ∧ Rp K W (upd H p (.tup xs)) (.tuple ds) (.ref p) :=
  ⟨grow_upd n, .tup (.inl (.inl upd_same)) hz ((Stay.grow hd (grow_upd n)).rpA r)⟩
theorem rn_newTup {ds : List P} {xs : List V} {p : Addr} (hd : Dom W H) (r : RpA K W H ds xs) (hz : xs.length ≤ sizeLine) (n : H p = none) : Rn K W H (upd H p (.tup xs)) (.tuple ds) (.ref p) := rp_newTup hd r hz n
theorem rn_newLst {ds : List P} {xs : List V} {p : Addr} (r : RpA K W H ds xs) (hz : xs.length ≤ sizeLine) (n : H p = none) : Rn K W H (upd H p (.lst xs)) (.list ds) (.ref p) :=
  ⟨p, xs, rfl, n, rfl, hz, r⟩
theorem line_le {n : Nat} (h : n ≤ 16777216) : n ≤ sizeLine := by rw [sizeLine_eq]; exact h
theorem le_line {n : Nat} (h : n ≤ sizeLine) : n ≤ 16777216 := by rw [sizeLine_eq] at h; exact h
theorem strOk_append {x y : Str} (h : PyData.strOk x = true) (h' : PyData.strOk y = true) : PyData.strOk (x ++ y) = true := by
  unfold PyData.strOk at *
  show ((x.cps ++ y.cps).all _) = true
  rw [Array.all_append, h, h']; rfl
theorem str_len_append (x y : Str) : (x ++ y).length = x.length + y.length := by
  show (x.cps ++ y.cps).size = x.cps.size + y.cps.size
  simp
end

section
variable {X : Cx}
theorem opD_add : OpR X (binaryOp .Add) (rOp2 X.K addP) := by
  refine OpR.imp (((op_add (X := X)).or op_add_str).or ((op_catA).or op_cat)) fun x y H Q h => ?_
  obtain ⟨W, a, b, c, hd, ra, rb, e, q⟩ := h
  cases a with
  | int i =>
    cases b with
    | int j =>
      cases e
      refine .inl (.inl ⟨i, j, ro_int ra, ro_int rb, q _ _ ⟨fun _ _ e => e, .int _⟩⟩)
    | _ => cases e
  | str i =>
    cases b with
    | str j =>
      simp only [addP] at e
      split at e
      · cases e
        rename_i hz
        obtain ⟨e1, o1, z1⟩ := ro_str ra
        obtain ⟨e2, o2, z2⟩ := ro_str rb
        refine .inl (.inr ⟨i, j, e1, e2, line_le hz, q _ _ ⟨fun _ _ e => e, .str _ (strOk_append o1 o2) ?_⟩⟩)
        rw [str_len_append]; exact line_le hz
      · cases e
    | _ => cases e
  | tuple i =>
    cases b with
    | tuple j =>
      simp only [addP] at e
      split at e
      · cases e
        rename_i hz
        obtain ⟨p, xs, e1, s1, z1, r1⟩ := ro_tup ra
        obtain ⟨p', xs', e2, s2, z2, r2⟩ := ro_tup rb
        have l1 := r1.length
        have l2 := r2.length
        refine .inr (.inl ⟨p, p', xs, xs', e1, e2, s1, s2, line_le (by omega), fun n => ?_, fun n n' => ?_, fun n n' l hl => ?_⟩)
        · subst n; cases r1
          rw [List.nil_append] at q
          exact q _ _ ⟨fun _ _ e => e, .tup s2 z2 r2⟩
        · subst n'; cases r2
          rw [List.append_nil] at q
          exact q _ _ ⟨fun _ _ e => e, .tup s1 z1 r1⟩
        · exact q _ _ (rn_newTup hd (r1.append r2) (line_le (by rw [List.length_append]; omega)) hl)
      · cases e
    | _ => cases e
  | list i =>
    cases b with
    | list j =>
      simp only [addP] at e
      split at e
      · cases e
        rename_i hz
        obtain ⟨p, xs, e1, s1, z1, r1⟩ := ro_lst ra
        obtain ⟨p', xs', e2, s2, z2, r2⟩ := ro_lst rb
        have l1 := r1.length
        have l2 := r2.length
        refine .inr (.inr ⟨p, p', xs, xs', e1, e2, s1, s2, line_le (by omega), fun l hl => ?_⟩)
        exact q _ _ (rn_newLst (r1.append r2) (line_le (by rw [List.length_append]; omega)) hl)
      · cases e
    | _ => cases e
  | _ => cases e
theorem opD_sub : OpR X (binaryOp .Sub) (rOp2 X.K subP) := by
  refine OpR.imp (op_sub (X := X)) fun x y H Q h => ?_
  obtain ⟨W, a, b, c, hd, ra, rb, e, q⟩ := h
  cases a with
  | int i =>
    cases b with
    | int j =>
      cases e
      exact ⟨i, j, ro_int ra, ro_int rb, q _ _ ⟨fun _ _ e => e, .int _⟩⟩
    | _ => cases e
  | _ => cases e
theorem smallI_ok {i : Int} (h : smallI i = true) : -(2 ^ 64) < i ∧ i < 2 ^ 64 := by
  unfold smallI at h
  simp only [Bool.and_eq_true, decide_eq_true_eq] at h
  exact ⟨by omega, by omega⟩
theorem opD_mul : OpR X (binaryOp .Mult) (rOp2 X.K mulP) := by
  refine OpR.imp ((op_mul (X := X)).or (op_rep.or op_repT)) fun x y H Q h => ?_
  obtain ⟨W, a, b, c, hd, ra, rb, e, q⟩ := h
  cases a with
  | int i =>
    cases b with
    | int j =>
      simp only [mulP] at e
      split at e
      · cases e
        rename_i hz
        refine .inl ⟨i, j, ro_int ra, ro_int rb, ?_, q _ _ ⟨fun _ _ e => e, .int _⟩⟩
        rcases Bool.or_eq_true_iff.mp hz with z | z
        · exact .inl (smallI_ok z)
        · exact .inr (smallI_ok z)
      · cases e
    | _ => cases e
  | list xs =>
    cases b with
    | int k =>
      simp only [mulP] at e
      split at e
      · cases e
        rename_i hz
        obtain ⟨h1, h2, h3⟩ := hz
        obtain ⟨p, ys, e1, s1, z1, r1⟩ := ro_lst ra
        have l1 := r1.length
        refine .inr (.inl ⟨p, k, ys, e1, ro_int rb, s1, by omega, by omega, by rw [← l1]; exact line_le h1, fun l hl => q _ _ (rn_newLst (r1.rep _) ?_ hl)⟩)
        rw [PyProof.Rows.lm_len_rep_flat, ← l1, Nat.mul_comm]; exact line_le h1
      · cases e
    | _ => cases e
  | tuple xs =>
    cases b with
    | int k =>
      simp only [mulP] at e
      split at e
      · cases e
        rename_i hz
        obtain ⟨h0, h1, h2, h3⟩ := hz
        obtain ⟨p, ys, e1, s1, z1, r1⟩ := ro_tup ra
        have l1 := r1.length
        have hn : ys ≠ [] := fun z => h0 (by subst z; cases r1; rfl)
        refine .inr (.inr ⟨p, k, ys, e1, ro_int rb, s1, hn, h1, h2, by omega, fun l hl => q _ _ (rn_newTup hd (r1.rep _) ?_ hl)⟩)
        rw [PyProof.Rows.lm_len_rep_flat, ← l1]
        have a1 : k.toNat * xs.length ≤ 1000 * 1000 := Nat.mul_le_mul (by omega) h3
        exact line_le (by omega)
      · cases e
    | _ => cases e
  | _ => cases e
theorem opD_fdiv : OpR X (binaryOp .FloorDiv) (rOp2 X.K fdivP) := by
  refine OpR.imp (op_fdiv (X := X)) fun x y H Q h => ?_
  obtain ⟨W, a, b, c, hd, ra, rb, e, q⟩ := h
  cases a with
  | int i =>
    cases b with
    | int j =>
      simp only [fdivP] at e
      split at e
      · cases e
        rename_i hz
        exact ⟨i, j, ro_int ra, ro_int rb, hz, q _ _ ⟨fun _ _ e => e, .int _⟩⟩
      · cases e
    | _ => cases e
  | _ => cases e
theorem opD_mod : OpR X (binaryOp .Mod) (rOp2 X.K modP) := by
  refine OpR.imp (op_mod (X := X)) fun x y H Q h => ?_
  obtain ⟨W, a, b, c, hd, ra, rb, e, q⟩ := h
  cases a with
  | int i =>
    cases b with
    | int j =>
      simp only [modP] at e
      split at e
      · cases e
        rename_i hz
        exact ⟨i, j, ro_int ra, ro_int rb, hz, q _ _ ⟨fun _ _ e => e, .int _⟩⟩
      · cases e
    | _ => cases e
  | _ => cases e
theorem opD_pow : OpR X (binaryOp .Pow) (rOp2 X.K powP) := by
  refine OpR.imp (op_pow (X := X)) fun x y H Q h => ?_
  obtain ⟨W, a, b, c, hd, ra, rb, e, q⟩ := h
  cases a with
  | int i =>
    cases b with
    | int j =>
      simp only [powP] at e
      split at e
      · cases e
        rename_i hz
        refine ⟨i, j, ro_int ra, ro_int rb, ⟨by omega, by omega, ?_⟩, q _ _ ⟨fun _ _ e => e, .int _⟩⟩
        have : (2 : Nat) ^ 64 = 18446744073709551616 := by decide
        omega
      · cases e
    | _ => cases e
  | _ => cases e
def BOp.op : BOp → Operator
  | .add => .Add | .sub => .Sub | .mul => .Mult | .fdiv => .FloorDiv | .mod => .Mod | .pow => .Pow
theorem opD (op : BOp) : OpR X (binaryOp op.op) (rOp2 X.K op.f) := by
  cases op with
  | add => exact opD_add
  | sub => exact opD_sub
  | mul => exact opD_mul
  | fdiv => exact opD_fdiv
  | mod => exact opD_mod
  | pow => exact opD_pow
theorem unD_neg : UnR X (unaryOp .USub) (rOp1s X.K negP) := by
  refine UnR.imp (un_neg (X := X)) fun x H Q h => ?_
  obtain ⟨W, a, c, hd, ra, e, q⟩ := h
  cases a with
  | int i => cases e; exact ⟨i, ro_int ra, q _ _ (fun _ _ e => e) (.int _)⟩
  | _ => cases e

/-! ### comparisons -/
/-- what the comparisons of data ask of the stack -/
abbrev Un (X : Cx) : Prop := X.A.units + 70 < cLine
theorem opD_eq (hu : Un X) : OpR X (compareOp .Eq) (rCmp X.K eqP) := by
  intro pins s σ H x y v u Q I rx ry h
  obtain ⟨W, a, b, c, ra, rb, e, q⟩ := h
  obtain ⟨as, r1⟩ := Dp.reads I a x v ra.dp rx
  obtain ⟨bs, r2⟩ := Dp.reads I b y u rb.dp ry
  unfold eqP at e
  split at e
  · cases e
    rename_i hz
    exact SeqAt.compareEq_reads r1 r2 ra.can rb.can (by have := hu; omega) ⟨.bl _, H, I, rfl, q⟩
  · cases e
theorem opD_ne (hu : Un X) : OpR X (compareOp .NotEq) (rCmp X.K fun a b => (eqP a b).map (!·)) := by
  intro pins s σ H x y v u Q I rx ry h
  obtain ⟨W, a, b, c, ra, rb, e, q⟩ := h
  obtain ⟨as, r1⟩ := Dp.reads I a x v ra.dp rx
  obtain ⟨bs, r2⟩ := Dp.reads I b y u rb.dp ry
  obtain ⟨k, e0, ek⟩ := Option.map_eq_some_iff.mp e
  clear e
  have e := e0
  clear e0
  subst ek
  unfold eqP at e
  split at e
  · cases e
    rename_i hz
    exact SeqAt.compareNe_reads r1 r2 ra.can rb.can (by have := hu; omega) ⟨.bl _, H, I, rfl, q⟩
  · cases e
theorem rCmp_w {K : PySem.W.Frag} {f : P → P → Option Bool} {x y : V} {H : Hp} {Q : VK} (h : rCmp K f x y H Q) : ∃ W a b c, Ro K W H a x ∧ Ro K W H b y ∧ f a b = some c ∧ Q (.bl c) H := h
theorem intsP_ok {K : PySem.W.Frag} {W : Wd} {H : Hp} : ∀ {xs : List P} {ns : List Int} {vs : List V}, intsP xs = some ns → RpA K W H xs vs → vs = ns.map V.int
  | [], _, _, e, r => by cases e; cases r; rfl
  | x :: xs, ns, vs, e, r => by
    cases r with
    | cons r1 r2 =>
      cases x with
      | int i =>
        simp only [intsP, Option.map_eq_some_iff] at e
        obtain ⟨ms, e1, e2⟩ := e
        subst e2
        cases r1
        rw [intsP_ok e1 r2]; rfl
      | _ => cases e
theorem opD_lt (hu : Un X) : OpR X (compareOp .Lt) (rCmp X.K ltP) := by
  refine OpR.imp ((op_lt (X := X)).or (op_ltT (by have := hu; omega))) fun x y H Q h => ?_
  obtain ⟨W, a, b, c, ra, rb, e, q⟩ := h
  cases a with
  | int i =>
    cases b with
    | int j => cases e; exact .inl ⟨i, j, ro_int ra, ro_int rb, q⟩
    | _ => cases e
  | tuple xs =>
    cases b with
    | tuple ys =>
      simp only [ltP] at e
      split at e
      · cases e
        rename_i n1 n2 e1 e2
        obtain ⟨p, vs, h1, s1, z1, r1⟩ := ro_tup ra
        obtain ⟨p', vs', h2, s2, z2, r2⟩ := ro_tup rb
        rw [intsP_ok e1 r1] at s1
        rw [intsP_ok e2 r2] at s2
        exact .inr ⟨p, p', _, _, h1, h2, s1, s2, q⟩
      · cases e
    | _ => cases e
  | _ => cases e
/-! tuples of whole numbers beside each other -/
/-- R decides at the first place where they differ, z where one ends -/
def lexK (R : Int → Int → Bool) (z : Bool) : List Int → List Int → Bool
  | x :: xs, y :: ys => if x = y then lexK R z xs ys else R x y
  | _, _ => z
theorem getD_app (p : List Int) (x : Int) (xs : List Int) : (p ++ x :: xs).getD p.length 0 = x := by simp
theorem lexAt_K (R : Int → Int → Bool) (z : Bool) : ∀ (xs ys p q : List Int), p.length = q.length →
    Ob.lexAt (fun j => decide ((p ++ xs).getD j 0 = (q ++ ys).getD j 0)) (fun j => R ((p ++ xs).getD j 0) ((q ++ ys).getD j 0)) z p.length (min xs.length ys.length) = lexK R z xs ys
  | [], ys, p, q, _ => by rw [List.length_nil, Nat.zero_min, Ob.lexAt_zero]; cases ys <;> rfl
  | x :: xs, [], p, q, _ => by rw [List.length_nil, Nat.min_zero, Ob.lexAt_zero]; rfl
  | x :: xs, y :: ys, p, q, h => by
    have e1 := getD_app p x xs
    have e2 := getD_app q y ys
    rw [← h] at e2
    have ih := lexAt_K R z xs ys (p ++ [x]) (q ++ [y]) (by simp [h])
    simp only [List.append_assoc, List.singleton_append, List.length_append, List.length_singleton] at ih
    rw [List.length_cons, List.length_cons, Nat.succ_min_succ, Ob.lexAt_succ, e1, e2, ih]
    show (if decide (x = y) = true then _ else _) = if x = y then _ else _
    by_cases hx : x = y <;> simp [hx]
theorem lexK_gt : ∀ xs ys : List Int, lexK (fun a b => decide (b < a)) (decide (ys.length < xs.length)) xs ys = HT.lexLt ys xs
  | [], [] => rfl
  | [], _ :: _ => by simp [lexK, HT.lexLt]
  | _ :: _, [] => by simp [lexK, HT.lexLt]
  | x :: xs, y :: ys => by
    have ih := lexK_gt xs ys
    simp only [lexK, HT.lexLt, List.length_cons, Nat.add_lt_add_iff_right, ih]
    by_cases hx : x = y
    · simp [hx]
    · rw [if_neg hx, if_neg (fun e => hx e.symm)]
theorem lexK_ge : ∀ xs ys : List Int, lexK (fun a b => decide (b ≤ a)) (decide (ys.length ≤ xs.length)) xs ys = !HT.lexLt xs ys
  | [], [] => rfl
  | [], _ :: _ => by simp [lexK, HT.lexLt]
  | _ :: _, [] => by simp [lexK, HT.lexLt]
  | x :: xs, y :: ys => by
    have ih := lexK_ge xs ys
    simp only [lexK, HT.lexLt, List.length_cons, Nat.add_le_add_iff_right, ih]
    by_cases hx : x = y
    · simp [hx]
    · rw [if_neg hx, if_neg hx]
      by_cases h : x < y
      · rw [decide_eq_true h, decide_eq_false (by omega)]; rfl
      · rw [decide_eq_false h, decide_eq_true (by omega)]; rfl
theorem lexK_le : ∀ xs ys : List Int, lexK (fun a b => decide (a ≤ b)) (decide (xs.length ≤ ys.length)) xs ys = !HT.lexLt ys xs
  | [], [] => rfl
  | [], _ :: _ => by simp [lexK, HT.lexLt]
  | _ :: _, [] => by simp [lexK, HT.lexLt]
  | x :: xs, y :: ys => by
    have ih := lexK_le xs ys
    simp only [lexK, HT.lexLt, List.length_cons, Nat.add_le_add_iff_right, ih]
    by_cases hx : x = y
    · simp [hx]
    · rw [if_neg hx, if_neg (fun e => hx e.symm)]
      by_cases h : y < x
      · rw [decide_eq_true h, decide_eq_false (by omega)]; rfl
      · rw [decide_eq_false h, decide_eq_true (by omega)]; rfl
/-- what a comparison of tuples does, by what it does with whole numbers -/
def TupOp (op : CmpOp) (Z : Nat → Nat → Bool) : Prop :=
  ∀ (A : Around) (s : Shared) (l b : Addr) (its ots : Array Value) (e r : Nat → Bool), s.heap.IsTuple l its → s.heap.IsTuple b ots → A.units < cLine →
    (∀ j (h1 : j < its.size) (h2 : j < ots.size), SeqAt.EqAt A.in1 s its[j] ots[j] (e j)) →
    (∀ j (h1 : j < its.size) (h2 : j < ots.size), e j = false → Ob.RcOp op A.in1 s its[j] ots[j] (r j)) →
    Ob.RcOp op A s (.ref l) (.ref b) (Ob.lexAt e r (Z its.size ots.size) 0 (min its.size ots.size))
theorem op_tups {op : CmpOp} {Z : Nat → Nat → Bool} {R : Int → Int → Bool} (hu : Un X) (hc : compareOp op = richCompare op) (ht : TupOp op Z) (hi : ∀ (A : Around) (s : Shared) (a b : Int) (t u : Tok), Ob.RcOp op A s (.int a t) (.int b u) (R a b)) :
    OpR X (compareOp op) (fun x y H Q => ∃ a b ns ms, x = .ref a ∧ y = .ref b ∧ SqT X.K H a (ns.map V.int) ∧ SqT X.K H b (ms.map V.int) ∧ Q (.bl (lexK R (Z ns.length ms.length) ns ms)) H) := by
  intro pins s σ H x y v u Q I rx ry h
  obtain ⟨a, b, ns, ms, ex, ey, ha, hb, q⟩ := h
  subst ex ey
  cases rx
  cases ry
  obtain ⟨us, ru, pu, _⟩ := I.tuple ha
  obtain ⟨ws, rw', pw, _⟩ := I.tuple hb
  have iu : IntsAre us ns := Vals.ints ru
  have iw : IntsAre ws ms := Vals.ints rw'
  have lu : us.toArray.size = ns.length := by rw [List.size_toArray, iu.length]
  have lw : ws.toArray.size = ms.length := by rw [List.size_toArray, iw.length]
  have gu (j : Nat) (hj : j < us.toArray.size) : ∃ t, us.toArray[j] = .int (ns.getD j 0) t := PyProof.Rows.IntsAre.int_at iu _ _ (by simp at hj; simp [hj])
  have gw (j : Nat) (hj : j < ws.toArray.size) : ∃ t, ws.toArray[j] = .int (ms.getD j 0) t := PyProof.Rows.IntsAre.int_at iw _ _ (by simp at hj; simp [hj])
  have main := ht X.A s a b us.toArray ws.toArray (fun j => decide (ns.getD j 0 = ms.getD j 0)) (fun j => R (ns.getD j 0) (ms.getD j 0)) pu pw (by have := hu; omega) (fun j h1 h2 => by
    obtain ⟨t, et⟩ := gu j h1
    obtain ⟨t', et'⟩ := gw j h2
    rw [et, et', show decide (ns.getD j 0 = ms.getD j 0) = (ns.getD j 0 == ms.getD j 0) from by
      by_cases c : ns.getD j 0 = ms.getD j 0
      · rw [decide_eq_true c, beq_iff_eq.mpr c]
      · rw [decide_eq_false c, beq_eq_false_iff_ne.mpr c]]
    exact SeqAt.EqAt.int_int _ _ _ _) (fun j h1 h2 _ => by
    obtain ⟨t, et⟩ := gu j h1
    obtain ⟨t', et'⟩ := gw j h2
    rw [et, et']
    exact hi _ _ _ _ _ _)
  rw [lu, lw, show Ob.lexAt (fun j => decide (ns.getD j 0 = ms.getD j 0)) (fun j => R (ns.getD j 0) (ms.getD j 0)) (Z ns.length ms.length) 0 (min ns.length ms.length) = _ from lexAt_K R (Z ns.length ms.length) ns ms [] [] rfl] at main
  rw [hc]
  exact main X.prog X.w X.xe (EP X pins σ Q) ⟨.bl _, H, I, rfl, q⟩
theorem opD_gt (hu : Un X) : OpR X (compareOp .Gt) (rCmp X.K fun a b => ltP b a) := by
  refine OpR.imp ((op_gt (X := X)).or (op_tups (R := fun a b => decide (b < a)) (Z := fun n m => decide (m < n)) hu rfl (fun A s l b its ots e r h1 h2 h3 h4 h5 => Ob.RcOp.tuples_gt h1 h2 h3 h4 h5) fun A s a b t u => Ob.RcOp.gt_int a b t u)) fun x y H Q h => ?_
  obtain ⟨W, a, b, c, ra, rb, e, q⟩ := h
  cases a with
  | int i =>
    cases b with
    | int j => cases e; exact .inl ⟨i, j, ro_int ra, ro_int rb, q⟩
    | _ => cases e
  | tuple xs =>
    cases b with
    | tuple ys =>
      simp only [ltP] at e
      split at e
      · cases e
        rename_i n1 n2 e1 e2
        obtain ⟨p, vs, h1, s1, z1, r1⟩ := ro_tup ra
        obtain ⟨p', vs', h2, s2, z2, r2⟩ := ro_tup rb
        rw [intsP_ok e2 r1] at s1
        rw [intsP_ok e1 r2] at s2
        exact .inr ⟨p, p', _, _, h1, h2, s1, s2, by rw [lexK_gt]; exact q⟩
      · cases e
    | _ => cases e
  | _ => cases b <;> cases e
theorem opD_le (hu : Un X) : OpR X (compareOp .LtE) (rCmp X.K leP) := by
  refine OpR.imp ((op_le (X := X)).or (op_tups (R := fun a b => decide (a ≤ b)) (Z := fun n m => decide (n ≤ m)) hu rfl (fun A s l b its ots e r h1 h2 h3 h4 h5 => Ob.RcOp.tuples_le h1 h2 h3 h4 h5) fun A s a b t u => Ob.RcOp.le_int a b t u)) fun x y H Q h => ?_
  obtain ⟨W, a, b, c, ra, rb, e, q⟩ := h
  cases a with
  | int i =>
    cases b with
    | int j => cases e; exact .inl ⟨i, j, ro_int ra, ro_int rb, q⟩
    | _ => cases e
  | tuple xs =>
    cases b with
    | tuple ys =>
      simp only [leP] at e
      split at e
      · cases e
        rename_i n1 n2 e1 e2
        obtain ⟨p, vs, h1, s1, z1, r1⟩ := ro_tup ra
        obtain ⟨p', vs', h2, s2, z2, r2⟩ := ro_tup rb
        rw [intsP_ok e1 r1] at s1
        rw [intsP_ok e2 r2] at s2
        exact .inr ⟨p, p', _, _, h1, h2, s1, s2, by rw [lexK_le]; exact q⟩
      · cases e
    | _ => cases e
  | _ => cases e
theorem opD_ge (hu : Un X) : OpR X (compareOp .GtE) (rCmp X.K fun a b => leP b a) := by
  refine OpR.imp ((op_ge (X := X)).or (op_tups (R := fun a b => decide (b ≤ a)) (Z := fun n m => decide (m ≤ n)) hu rfl (fun A s l b its ots e r h1 h2 h3 h4 h5 => Ob.RcOp.tuples_ge h1 h2 h3 h4 h5) fun A s a b t u => Ob.RcOp.ge_int a b t u)) fun x y H Q h => ?_
  obtain ⟨W, a, b, c, ra, rb, e, q⟩ := h
  cases a with
  | int i =>
    cases b with
    | int j => cases e; exact .inl ⟨i, j, ro_int ra, ro_int rb, q⟩
    | _ => cases e
  | tuple xs =>
    cases b with
    | tuple ys =>
      simp only [leP] at e
      split at e
      · cases e
        rename_i n1 n2 e1 e2
        obtain ⟨p, vs, h1, s1, z1, r1⟩ := ro_tup ra
        obtain ⟨p', vs', h2, s2, z2, r2⟩ := ro_tup rb
        rw [intsP_ok e2 r1] at s1
        rw [intsP_ok e1 r2] at s2
        exact .inr ⟨p, p', _, _, h1, h2, s1, s2, by rw [lexK_ge]; exact q⟩
      · cases e
    | _ => cases e
  | _ => cases b <;> cases e
theorem ro_isN {K : PySem.W.Frag} {W : Wd} {H : Hp} {a : P} {x : V} (ra : Ro K W H a x) : decide (x = .non) = isNoneP a := by
  cases a with
  | none => rw [ro_none ra]; rfl
  | bool b => rw [ro_bool ra]; rfl
  | int b => rw [ro_int ra]; rfl
  | str b => rw [(ro_str ra).1]; rfl
  | list b => obtain ⟨a, xs, e, _⟩ := ro_lst ra; rw [e]; rfl
  | tuple b => obtain ⟨a, xs, e, _⟩ := ro_tup ra; rw [e]; rfl
  | dict b => have := ra.can; cases this
theorem opD_is : OpR X (compareOp .Is) (rCmp X.K isP) := by
  refine OpR.imp ((op_isN (X := X)).or op_isBl) fun x y H Q h => ?_
  obtain ⟨W, a, b, c, ra, rb, e, q⟩ := h
  cases b with
  | none =>
    refine .inl ⟨ro_none rb, ?_⟩
    have e' : some (isNoneP a) = some c := by cases a <;> exact e
    cases e'
    rw [ro_isN ra]; exact q
  | bool j =>
    cases a with
    | bool i =>
      cases e
      refine .inr ⟨i, j, ro_bool ra, ro_bool rb, ?_⟩
      rw [show decide (i = j) = (i == j) by cases i <;> cases j <;> rfl]; exact q
    | _ => cases e
  | _ => cases a <;> cases e
theorem opD_isnot : OpR X (compareOp .IsNot) (rCmp X.K fun a b => (isP a b).map (!·)) := by
  refine OpR.imp ((op_notN (X := X)).or op_notBl) fun x y H Q h => ?_
  obtain ⟨W, a, b, c, ra, rb, e, q⟩ := h
  obtain ⟨k, e0, ek⟩ := Option.map_eq_some_iff.mp e
  clear e
  have e := e0
  clear e0
  subst ek
  cases b with
  | none =>
    refine .inl ⟨ro_none rb, ?_⟩
    have e' : some (isNoneP a) = some k := by cases a <;> exact e
    cases e'
    rw [ro_isN ra]; exact q
  | bool j =>
    cases a with
    | bool i =>
      cases e
      refine .inr ⟨i, j, ro_bool ra, ro_bool rb, ?_⟩
      rw [show decide (i = j) = (i == j) by cases i <;> cases j <;> rfl]; exact q
    | _ => cases e
  | _ => cases a <;> cases e
theorem opD_in (hu : Un X) : OpR X (compareOp .In) (rCmp X.K inP) := by
  intro pins s σ H x y v u Q I rx ry h
  obtain ⟨W, a, b, c, ra, rb, e, q⟩ := h
  obtain ⟨as, r1⟩ := Dp.reads I a x v ra.dp rx
  obtain ⟨bs, r2⟩ := Dp.reads I b y u rb.dp ry
  cases b with
  | list ds =>
    simp only [inP] at e
    split at e
    · cases e
      exact SeqAt.in_list_reads r2 r1 rb.can ra.can (by have := hu; omega) ⟨.bl _, H, I, rfl, q⟩
    · cases e
  | tuple ds =>
    simp only [inP] at e
    split at e
    · cases e
      exact SeqAt.in_tuple_reads r2 r1 rb.can ra.can (by have := hu; omega) ⟨.bl _, H, I, rfl, q⟩
    · cases e
  | _ => cases e
theorem opD_notin (hu : Un X) : OpR X (compareOp .NotIn) (rCmp X.K fun a b => (inP a b).map (!·)) := by
  intro pins s σ H x y v u Q I rx ry h
  obtain ⟨W, a, b, c, ra, rb, e, q⟩ := h
  obtain ⟨as, r1⟩ := Dp.reads I a x v ra.dp rx
  obtain ⟨bs, r2⟩ := Dp.reads I b y u rb.dp ry
  obtain ⟨k, e0, ek⟩ := Option.map_eq_some_iff.mp e
  clear e
  have e := e0
  clear e0
  subst ek
  cases b with
  | list ds =>
    simp only [inP] at e
    split at e
    · cases e
      exact SeqAt.notIn_list_reads r2 r1 rb.can ra.can (by have := hu; omega) ⟨.bl _, H, I, rfl, q⟩
    · cases e
  | tuple ds =>
    simp only [inP] at e
    split at e
    · cases e
      exact SeqAt.notIn_tuple_reads r2 r1 rb.can ra.can (by have := hu; omega) ⟨.bl _, H, I, rfl, q⟩
    · cases e
  | _ => cases e
def COp.op : COp → CmpOp
  | .eq => .Eq | .ne => .NotEq | .lt => .Lt | .gt => .Gt | .le => .LtE | .ge => .GtE | .is => .Is | .isnot => .IsNot | .in_ => .In | .notin => .NotIn
theorem opC (hu : Un X) (op : COp) : OpR X (compareOp op.op) (rCmp X.K op.f) := by
  cases op with
  | eq => exact opD_eq hu
  | ne => exact opD_ne hu
  | lt => exact opD_lt hu
  | gt => exact opD_gt hu
  | le => exact opD_le hu
  | ge => exact opD_ge hu
  | is => exact opD_is
  | isnot => exact opD_isnot
  | in_ => exact opD_in hu
  | notin => exact opD_notin hu

/-! ### subscripts -/
theorem atI_rp {K : PySem.W.Frag} {W : Wd} {H : Hp} {ds : List P} {vs : List V} {i : Int} {c : P} (r : RpA K W H ds vs) (e : atI ds i = some c) : ∃ v, atI vs i = some v ∧ Rp K W H c v := by
  unfold atI at *
  rw [← r.length]
  obtain ⟨j, h1, h2⟩ := Option.bind_eq_some_iff.mp e
  obtain ⟨v, h3, h4⟩ := r.get h2
  exact ⟨v, by rw [h1]; exact h3, h4⟩
theorem ixD : IxR X (rOp2s X.K ixP) := by
  refine IxR.imp (ix_seq (X := X)) fun x y H Q h => ?_
  obtain ⟨W, a, b, c, hd, ra, rb, e, q⟩ := h
  cases b with
  | int i =>
    cases a with
    | list ds =>
      obtain ⟨p, xs, e1, s1, z1, r1⟩ := ro_lst ra
      obtain ⟨v, h1, h2⟩ := atI_rp r1 e
      exact .inl ⟨p, xs, i, v, e1, ro_int rb, .inl (.inl s1), h1, q _ _ (fun _ _ e => e) h2⟩
    | tuple ds =>
      obtain ⟨p, xs, e1, s1, z1, r1⟩ := ro_tup ra
      obtain ⟨v, h1, h2⟩ := atI_rp r1 e
      exact .inr (.inl ⟨p, xs, i, v, e1, ro_int rb, s1, h1, q _ _ (fun _ _ e => e) h2⟩)
    | str z =>
      obtain ⟨e1, o1, l1⟩ := ro_str ra
      obtain ⟨c', e2, e3⟩ := Option.map_eq_some_iff.mp (show (atI z.cps.toList i).map (fun c => PyData.str ⟨#[c]⟩) = some c from e)
      subst e3
      refine .inr (.inr ⟨z, i, c', e1, ro_int rb, l1, e2, q _ _ (fun _ _ e => e) (.str _ ?_ ?_)⟩)
      · unfold atI at e2
        obtain ⟨j, h1, h2⟩ := Option.bind_eq_some_iff.mp e2
        have hm : c' ∈ z.cps := by
          have := List.mem_of_getElem? h2
          simpa using this
        unfold PyData.strOk at *
        rw [Array.all_eq_true_iff_forall_mem] at o1
        simp [o1 c' hm]
      · show (1 : Nat) ≤ sizeLine
        rw [sizeLine_eq]; decide
    | _ => cases e
  | _ => cases a <;> cases e
theorem cutL_rp {K : PySem.W.Frag} {W : Wd} {H : Hp} {ds : List P} {vs : List V} (lo hi : Option Int) (r : RpA K W H ds vs) : RpA K W H (cutL ds lo hi) (cutV vs lo hi) := by
  unfold cutL cutV
  rw [r.length]
  exact (r.drop _).take _
def rSlD (K : PySem.W.Frag) : V → Option Int → Option Int → Hp → VK → Prop := fun x lo hi H Q => ∃ W a c, Dom W H ∧ Ro K W H a x ∧ cutP lo hi a = some c ∧ ∀ v H', Rn K W H H' c v → Q v H'
theorem slD : SlR X (rSlD X.K) := by
  intro pins s σ H x v vl vu lo hi sl Q I rx hs pl pu h
  refine (SlR.or (sl_list (X := X)) sl_tupA) pins s σ H x v vl vu lo hi sl Q I rx hs pl pu ?_
  obtain ⟨W, a, c, hd, ra, e, q⟩ := h
  cases a with
  | list ds =>
    cases e
    obtain ⟨p, xs, e1, s1, z1, r1⟩ := ro_lst ra
    exact .inl ⟨p, xs, e1, .inl (.inl s1), fun l hl => q _ _ (rn_newLst (cutL_rp lo hi r1) (Nat.le_trans (cutV_length _ _ _) z1) hl)⟩
  | tuple ds =>
    cases e
    obtain ⟨p, xs, e1, s1, z1, r1⟩ := ro_tup ra
    refine .inr ⟨p, xs, e1, s1, fun hw => ?_, fun hw l hl => q _ _ (rn_newTup hd (cutL_rp lo hi r1) (Nat.le_trans (cutV_length _ _ _) z1) hl)⟩
    have : cutL ds lo hi = ds := by
      unfold cutL
      rw [r1.length, hw.1, hw.2, List.drop_zero, Nat.sub_zero, ← r1.length, List.take_length]
    rw [this] at q
    exact q _ _ ⟨fun _ _ e => e, .tup s1 z1 r1⟩
  | _ => cases e

/-! ### built-in functions -/
def rB (K : PySem.W.Frag) (f : P → Option P) : List V → Hp → VK → Prop := fun xs H Q => ∃ x, xs = [x] ∧ rOp1s K f x H Q
def rBn (K : PySem.W.Frag) (f : P → Option P) : List V → Hp → VK → Prop := fun xs H Q => ∃ x, xs = [x] ∧ rOp1 K f x H Q
theorem cD_len : CallR X (.builtin "len") (rB X.K lenP) := by
  refine CallR.imp ((call_len_seq (X := X)).or call_len_str) fun xs H Q h => ?_
  obtain ⟨x, rfl, W, a, c, hd, ra, e, q⟩ := h
  cases a with
  | list ds =>
    cases e
    obtain ⟨p, xs, e1, s1, z1, r1⟩ := ro_lst ra
    subst e1
    refine .inl ⟨p, xs, rfl, .inl (.inl (.inl s1)), ?_⟩
    rw [← r1.length]
    exact q _ _ (fun _ _ e => e) (.int _)
  | tuple ds =>
    cases e
    obtain ⟨p, xs, e1, s1, z1, r1⟩ := ro_tup ra
    subst e1
    refine .inl ⟨p, xs, rfl, .inr s1, ?_⟩
    rw [← r1.length]
    exact q _ _ (fun _ _ e => e) (.int _)
  | str z =>
    cases e
    obtain ⟨e1, o1, l1⟩ := ro_str ra
    subst e1
    exact .inr ⟨z, rfl, l1, q _ _ (fun _ _ e => e) (.int _)⟩
  | _ => cases e
theorem cD_abs : CallR X (.builtin "abs") (rB X.K absP) := by
  refine CallR.imp (call_abs (X := X)) fun xs H Q h => ?_
  obtain ⟨x, rfl, W, a, c, hd, ra, e, q⟩ := h
  cases a with
  | int i => cases e; cases ro_int ra; exact ⟨i, rfl, q _ _ (fun _ _ e => e) (.int _)⟩
  | _ => cases e
theorem cD_int : CallR X (.type "int") (rB X.K intP) := by
  refine CallR.imp (call_int1 (X := X)) fun xs H Q h => ?_
  obtain ⟨x, rfl, W, a, c, hd, ra, e, q⟩ := h
  cases a with
  | int i => cases e; cases ro_int ra; exact .inl ⟨i, rfl, q _ _ (fun _ _ e => e) (.int _)⟩
  | bool i => cases e; cases ro_bool ra; exact .inr ⟨i, rfl, q _ _ (fun _ _ e => e) (.int _)⟩
  | _ => cases e
theorem boolsP_ok {K : PySem.W.Frag} {W : Wd} {H : Hp} : ∀ {xs : List P} {ns : List Bool} {vs : List V}, boolsP xs = some ns → RpA K W H xs vs → vs = ns.map V.bl
  | [], _, _, e, r => by cases e; cases r; rfl
  | x :: xs, ns, vs, e, r => by
    cases r with
    | cons r1 r2 =>
      cases x with
      | bool i =>
        simp only [boolsP, Option.map_eq_some_iff] at e
        obtain ⟨ms, e1, e2⟩ := e
        subst e2
        cases r1
        rw [boolsP_ok e1 r2]; rfl
      | _ => cases e
theorem cD_all (hc : X.calm = true) : CallR X (.builtin "all") (rB X.K allP) := by
  refine CallR.imp (cr_all (X := X) hc) fun xs H Q h => ?_
  obtain ⟨x, rfl, W, a, c, hd, ra, e, q⟩ := h
  cases a with
  | list ds =>
    obtain ⟨bs, e1, e2⟩ := Option.map_eq_some_iff.mp (show (boolsP ds).map (fun bs => PyData.bool (bs.all id)) = some c from e)
    subst e2
    obtain ⟨p, xs, e3, s1, z1, r1⟩ := ro_lst ra
    subst e3
    rw [boolsP_ok e1 r1] at s1
    exact ⟨p, bs, rfl, .inl (.inl s1), q _ _ (fun _ _ e => e) (.bl _)⟩
  | _ => cases e
theorem cD_any (hc : X.calm = true) : CallR X (.builtin "any") (rB X.K anyP) := by
  refine CallR.imp (cr_any (X := X) hc) fun xs H Q h => ?_
  obtain ⟨x, rfl, W, a, c, hd, ra, e, q⟩ := h
  cases a with
  | list ds =>
    obtain ⟨bs, e1, e2⟩ := Option.map_eq_some_iff.mp (show (boolsP ds).map (fun bs => PyData.bool (bs.any id)) = some c from e)
    subst e2
    obtain ⟨p, xs, e3, s1, z1, r1⟩ := ro_lst ra
    subst e3
    rw [boolsP_ok e1 r1] at s1
    exact ⟨p, bs, rfl, .inl (.inl s1), q _ _ (fun _ _ e => e) (.bl _)⟩
  | _ => cases e
theorem cD_sum (hc : X.calm = true) : CallR X (.builtin "sum") (rB X.K sumP) := by
  refine CallR.imp (cr_sum (X := X) hc) fun xs H Q h => ?_
  obtain ⟨x, rfl, W, a, c, hd, ra, e, q⟩ := h
  cases a with
  | list ds =>
    obtain ⟨bs, e1, e2⟩ := Option.map_eq_some_iff.mp (show (intsP ds).map (fun bs => PyData.int bs.sum) = some c from e)
    subst e2
    obtain ⟨p, xs, e3, s1, z1, r1⟩ := ro_lst ra
    subst e3
    rw [intsP_ok e1 r1] at s1
    exact ⟨p, bs, rfl, .inl (.inl s1), q _ _ (fun _ _ e => e) (.int _)⟩
  | _ => cases e
theorem cD_tuple : CallR X (.type "tuple") (rB X.K tupP) := by
  refine CallR.imp (call_tuple_of (X := X)) fun xs H Q h => ?_
  obtain ⟨x, rfl, W, a, c, hd, ra, e, q⟩ := h
  cases a with
  | list ds =>
    cases e
    obtain ⟨p, xs, e1, s1, z1, r1⟩ := ro_lst ra
    subst e1
    refine ⟨p, xs, rfl, .inl ⟨.inl (.inl s1), fun l hl => ?_⟩⟩
    obtain ⟨g, r⟩ := rp_newTup hd r1 z1 hl
    exact q _ _ g r
  | tuple ds =>
    cases e
    obtain ⟨p, xs, e1, s1, z1, r1⟩ := ro_tup ra
    subst e1
    exact ⟨p, xs, rfl, .inr ⟨s1, q _ _ (fun _ _ e => e) (.tup s1 z1 r1)⟩⟩
  | _ => cases e
theorem cD_str : CallR X (.type "str") (rB X.K strP) := by
  refine CallR.imp (SkE.call_str_str (X := X)) fun xs H Q h => ?_
  obtain ⟨x, rfl, W, a, c, hd, ra, e, q⟩ := h
  cases a with
  | str z =>
    cases e
    obtain ⟨e1, z1, z2⟩ := ro_str ra
    exact ⟨z, by rw [e1], q _ _ (fun _ _ e => e) (.str z z1 z2)⟩
  | _ => cases e
/-- list(x): of data, of the law's own argument -/
def rLst (K : PySem.W.Frag) : List V → Hp → VK → Prop := fun xs H Q => ∃ x, xs = [x] ∧ (rOp1 K lstP x H Q ∨
  ∃ (W : Wd) (ns : List Int), Dom W H ∧ RpD K ⟨fun _ => 0, []⟩ W H (.fz ns) x ∧ ∀ v H', Rn K W H H' (.list (ns.map PyData.int)) v → Q v H')
theorem rpA_ints {K : PySem.W.Frag} {W : Wd} {H : Hp} : ∀ ns : List Int, RpA K W H (ns.map PyData.int) (ns.map V.int)
  | [] => .nil
  | n :: ns => .cons (.int n) (rpA_ints ns)
theorem cD_list : CallR X (.type "list") (rLst X.K) := by
  refine CallR.imp (call_list_of (X := X)) fun xs H Q h => ?_
  obtain ⟨x, rfl, ⟨W, a, c, hd, ra, e, q⟩ | ⟨W, ns, hd, r, q⟩⟩ := h
  · cases a with
    | list ds =>
      cases e
      obtain ⟨p, xs, e1, s1, z1, r1⟩ := ro_lst ra
      subst e1
      exact ⟨p, xs, rfl, .inl (.inl (.inl s1)), fun l hl => q _ _ (rn_newLst r1 z1 hl)⟩
    | tuple ds =>
      cases e
      obtain ⟨p, xs, e1, s1, z1, r1⟩ := ro_tup ra
      subst e1
      exact ⟨p, xs, rfl, .inr s1, fun l hl => q _ _ (rn_newLst r1 z1 hl)⟩
    | _ => cases e
  · obtain ⟨hz, a, e1, h⟩ := r
    subst e1
    exact ⟨a, _, rfl, .inl h.sq, fun l hl => q _ _ (rn_newLst (rpA_ints ns) (by rw [List.length_map]; exact line_le hz) hl)⟩
def Ty.s : Ty → String
  | .int => "int" | .bool => "bool" | .str => "str" | .tuple => "tuple" | .list => "list"
def tyS : P → String
  | .none => "NoneType" | .bool _ => "bool" | .int _ => "int" | .str _ => "str" | .list _ => "list" | .tuple _ => "tuple" | .dict _ => "dict"
theorem ro_ty {K : PySem.W.Frag} {W : Wd} {H : Hp} {a : P} {x : V} (ra : Ro K W H a x) : TyX K H x (.type (tyS a)) := by
  cases a with
  | none => rw [ro_none ra]; exact .base .non
  | bool b => rw [ro_bool ra]; exact .base (.bl b)
  | int b => rw [ro_int ra]; exact .base (.int b)
  | str b => rw [(ro_str ra).1]; exact .base (.str b)
  | list b =>
    obtain ⟨a, xs, e, h, _⟩ := ro_lst ra
    rw [e]
    exact .base (.lst h)
  | tuple b =>
    obtain ⟨a, xs, e, h, _⟩ := ro_tup ra
    rw [e]
    rcases h with (h | ⟨o, h⟩) | ⟨o, its, n, h1, h2, _⟩
    · exact .base (.tup h)
    · exact .fTuple h
    · exact .kTuple h1 h2
  | dict b => have := ra.can; cases this
theorem kit_non (T : Ty) : kitB "NoneType" T.s = some false := by cases T <;> decide +kernel
theorem kit_bool (T : Ty) : kitB "bool" T.s = some (isiP T (.bool true)) := by cases T <;> decide +kernel
theorem kit_int (T : Ty) : kitB "int" T.s = some (isiP T (.int 0)) := by cases T <;> decide +kernel
theorem kit_str (T : Ty) : kitB "str" T.s = some (isiP T (.str Str.empty)) := by cases T <;> decide +kernel
theorem kit_list (T : Ty) : kitB "list" T.s = some (isiP T (.list [])) := by cases T <;> decide +kernel
theorem kit_tuple (T : Ty) : kitB "tuple" T.s = some (isiP T (.tuple [])) := by cases T <;> decide +kernel
theorem isiP_kit (T : Ty) (a : P) (h : a.canLay0 = true) : kitB (tyS a) T.s = some (isiP T a) := by
  cases a with
  | none => exact (kit_non T).trans (by cases T <;> rfl)
  | bool b => exact (kit_bool T).trans (by cases T <;> rfl)
  | int b => exact (kit_int T).trans (by cases T <;> rfl)
  | str b => exact (kit_str T).trans (by cases T <;> rfl)
  | list b => exact (kit_list T).trans (by cases T <;> rfl)
  | tuple b => exact (kit_tuple T).trans (by cases T <;> rfl)
  | dict b => cases h
def rIs (K : PySem.W.Frag) (T : Ty) : List V → Hp → VK → Prop := fun xs H Q => ∃ x W a, xs = [x, .ty T.s] ∧ Ro K W H a x ∧ Q (.bl (isiP T a)) H
theorem cD_isi (T : Ty) : CallR X (.builtin "isinstance") (rIs X.K T) := by
  refine CallR.imp (call_isi (X := X)) fun xs H Q h => ?_
  obtain ⟨x, W, a, rfl, ra, q⟩ := h
  exact ⟨x, _, _, _, _, rfl, .ty T.s, ro_ty ra, kit_ty (isiP_kit T a ra.can), q⟩
/-! ### truth -/
theorem truP_ok {K : PySem.W.Frag} {W : Wd} {H : Hp} {a : P} {x : V} (ra : Ro K W H a x) : TruV K x H (truP a) := by
  cases a with
  | none => rw [ro_none ra]; rfl
  | bool b => rw [ro_bool ra]; rfl
  | int b => rw [ro_int ra]; rfl
  | str b =>
    obtain ⟨e, _, z⟩ := ro_str ra
    rw [e]
    exact ⟨z, rfl⟩
  | list b =>
    obtain ⟨a, xs, e, h, z, r⟩ := ro_lst ra
    rw [e]
    refine .inl ⟨xs, .inl (.inl h), ?_⟩
    show (!b.isEmpty) = !xs.isEmpty
    have := r.length
    cases b <;> cases xs <;> first | rfl | (simp at this)
  | tuple b =>
    obtain ⟨a, xs, e, h, z, r⟩ := ro_tup ra
    rw [e]
    refine .inr (.inl ⟨xs, h, ?_⟩)
    show (!b.isEmpty) = !xs.isEmpty
    have := r.length
    cases b <;> cases xs <;> first | rfl | (simp at this)
  | dict b => have := ra.can; cases this
end
end Mp

set_option maxRecDepth 100000
set_option maxHeartbeats 4000000
/-! Mp3b: x[::-1] of lists and tuples. -/
namespace Mp
open PySem PySem.Spec PyProof.Rows L2 HT
section
variable {prog : Program} {w : World} {A : Around} {E : Value → Shared → Prop} {s : Shared}
theorem sliceApplied_rev {sl : Addr} {vs : Value} {n : Nat} {Q : Int × Int × Nat → Shared → Prop} (hs : s.heap.IsSliceOf sl .none .none vs) (ps : IsPart vs (some (-1)))
    (h : Q ((n : Int) - 1, -1, n) s) : wpAny (model prog w) A (Builtin.Slice.sliceApplied (.ref sl) (pure (n : Int))) Q E s := by
  obtain ⟨os, hos, hcs, hds⟩ := id hs
  unfold Builtin.Slice.sliceApplied Builtin.Slice.sliceFields
  refine wpAny_bind (wpAny_bind (wpAny_field hos hds (x := .none) rfl (wpAny_bind (wpAny_field hos hds (x := .none) rfl (wpAny_bind (wpAny_field hos hds (x := vs) rfl (wpAny_pure ?_)))))))
  refine wpAny_bind (slicePart_ ps ?_)
  show wpAny _ _ (if ((-1 : Int) == 0) = true then _ else _) _ _ s
  rw [if_neg (by decide)]
  refine wpAny_bind (slicePart_none (wpAny_bind (slicePart_none (wpAny_bind (wpAny_pure ?_)))))
  show wpAny _ _ (pure ((n : Int) - 1, (-1 : Int), Builtin.Slice.slicePlaces ((n : Int) - 1) (-1) (-1))) _ _ s
  have e : Builtin.Slice.slicePlaces ((n : Int) - 1) (-1) (-1) = n := by
    unfold Builtin.Slice.slicePlaces
    have h1 : ¬ ((-1 : Int) > 0) := by omega
    simp only [h1, if_false, Int.neg_neg, Int.ediv_one]
    split <;> omega
  rw [e]
  exact wpAny_pure h
theorem rev_pick {α : Type} (l : List α) : ((List.range l.length).filterMap fun (k : Nat) => l[((l.length : Int) - 1 + (k : Int) * -1).toNat]?) = l.reverse := by
  have key : ∀ n, n ≤ l.length → ((List.range n).filterMap fun (k : Nat) => l[((l.length : Int) - 1 + (k : Int) * -1).toNat]?) = l.reverse.take n := by
    intro n
    induction n with
    | zero => intro _; rfl
    | succ n ih =>
      intro hn
      have h1 : ((l.length : Int) - 1 + (n : Int) * -1).toNat = l.length - 1 - n := by omega
      rw [List.range_succ, List.filterMap_append, ih (by omega), List.take_add_one, List.getElem?_reverse (by omega), List.getElem?_eq_getElem (show l.length - 1 - n < l.length by omega)]
      congr 1
      rw [List.filterMap_cons, h1, List.getElem?_eq_getElem (show l.length - 1 - n < l.length by omega)]
      rfl
  rw [key l.length (Nat.le_refl _), ← List.length_reverse, List.take_length]
theorem getItem_tuple_rev {t sl : Addr} {items : Array Value} {vs : Value} {Q : Value → Shared → Prop} (ht : IsTup s.heap t items) (hs : s.heap.IsSliceOf sl .none .none vs) (ps : IsPart vs (some (-1)))
    (h : Q (.ref s.heap.objs.size) { s with heap := s.heap.push { cls := .type "tuple", data := .seq items.toList.reverse.toArray } })
    (hsz : items.size ≤ sizeLine) : wpAny (model prog w) A (getItem (.ref t) (.ref sl)) Q E s := by
  have htake : sizeOk (.seq items.toList.reverse.toArray) := by
    show items.toList.reverse.toArray.size ≤ sizeLine
    rw [List.size_toArray, List.length_reverse, Array.length_toList]
    exact hsz
  obtain ⟨os, hos, hcs, hds⟩ := id hs
  have hTs : s.TypeIs (.ref sl) "slice" := ⟨os, hos, hcs⟩
  unfold getItem
  try with_reducible refine wpAny_holding ?_
  first | refine wpAny_bind (wpAny_pure ?_) | skip
  refine wpAny_bind (wpAny_sequenceKey ht.typeIs (by decide) ?_)
  refine wpAny_bind (wpAny_callSpecial?_slot (name := Str.ofString "__getitem__") ht.typeIs PyProof.Rows.slot_tuple_getitem
    (wpAny_call_entry PyProof.Rows.slot_tuple_getitem ht.typeIs entry_tuple_getitem ?_ (args_tuple_getitem _ _)))
  show wpAny _ _ (Builtin.Tuple.tupleItemsOf (.ref t) >>= _) _ _ s
  refine wpAny_bind (tupleItemsOf_ ht ?_)
  refine wpAny_bind (wpAny_typeOf hTs ?_)
  rw [if_pos (by decide)]
  refine wpAny_bind (sliceApplied_rev hs ps ?_)
  have hno : ¬ ((((items.size : Int) - 1) == 0 && (-1 : Int) == 1 && items.size == items.size) = true) := by
    intro q
    rw [Bool.and_eq_true, Bool.and_eq_true] at q
    have := eq_of_beq q.1.2
    omega
  show wpAny _ _ (if (((items.size : Int) - 1) == 0 && (-1 : Int) == 1 && items.size == items.size) = true then _ else _) _ _ s
  rw [if_neg hno]
  have e : ((List.range items.size).filterMap fun (k : Nat) => items[((items.size : Int) - 1 + (k : Int) * -1).toNat]?).toArray = items.toList.reverse.toArray := by
    have := rev_pick items.toList
    rw [Array.length_toList] at this
    rw [← this]
    have e2 : (fun (k : Nat) => items[((items.size : Int) - 1 + (k : Int) * -1).toNat]?) = fun (k : Nat) => items.toList[((items.size : Int) - 1 + (k : Int) * -1).toNat]? := by
      funext k
      rw [Array.getElem?_toList]
    rw [e2]
  rw [e]
  first
    | exact wpAny_bind (m := Builtin.Tuple.tupleExact _) (wpAny_newObj_type (wpAny_pure ⟨_, rfl, wpAny_pure h⟩) htake)
    | exact wpAny_bind (m := Builtin.Tuple.tupleExact _) (wpAny_newObj_type (wpAny_bind (wpAny_pure (wpAny_pure ⟨_, rfl, wpAny_pure h⟩))) htake)
    | exact wpAny_bind (wpAny_bind (m := Builtin.Tuple.tupleExact _) (wpAny_newObj_type (wpAny_pure (wpAny_pure ⟨_, rfl, wpAny_pure h⟩)) htake))
    | exact wpAny_bind (wpAny_bind (m := Builtin.Tuple.tupleExact _) (wpAny_newObj_type (wpAny_pure ⟨_, rfl, wpAny_pure h⟩) htake))
end
section
variable {X : Cx} {pos : Pos}
theorem pe_rev {e : Expr} {te : TE} {k : Nat} {p1 p2 p3 pos : Pos} (he : PE X e te) : PE X (.Subscript e (.Slice none none (some (.UnaryOp .USub (.Constant (.int 1) k p1) p2)) p3) pos) (fun σ H Q => te σ H fun x H1 => rOp1 X.K revP x H1 Q) := by
  refine ⟨fun pins s σ H Q I h => ?_⟩
  refine Subscript_ (thn (he.run pins s σ H _ I h) fun v s1 ⟨x, H1, I1, r1, q1⟩ => ?_)
  obtain ⟨W, a, c, hd, ra, ef, q⟩ := q1
  have hst : PO X (some (.UnaryOp .USub (.Constant (.int 1) k p1) p2)) (tPart (tUn (rU fun i => .int (-i)) (tC (.int 1)))) := po_some (pe_un un_neg pe_int)
  refine wpAny_Slice (thn (po_none.run pins s1 σ H1 (fun o H2 => o = none ∧ H2 = H1) I1 ⟨rfl, rfl⟩) fun vl s2 ⟨l, H2, I2, pl, el, e2⟩ => ?_)
  subst el e2
  refine thn (po_none.run pins s2 σ H2 (fun o H3 => o = none ∧ H3 = H2) I2 ⟨rfl, rfl⟩) fun vu s3 ⟨u, H3, I3, pu, eu, e3⟩ => ?_
  subst eu e3
  refine thn (hst.run pins s3 σ H3 (fun o H4 => o = some (-1) ∧ H4 = H3) I3 ⟨1, rfl, -1, rfl, rfl, rfl⟩) fun vs s4 ⟨o, H4, I4, ps, eo, e4⟩ => ?_
  subst eo e4
  have I5 : Inv X pins σ H4 { s4 with heap := s4.heap.push { cls := .type "slice", data := .fields #[vl, vu, vs] } } := I4.kept (t' := s4.toks) fun b ob q => Heap.get?_push_of_some _ q
  show wpAny (model X.prog X.w) X.A (subscriptTail e (.Slice none none (some (.UnaryOp .USub (.Constant (.int 1) k p1) p2)) p3) v (.ref s4.heap.objs.size)) (EP X pins σ Q) X.xe { s4 with heap := s4.heap.push { cls := .type "slice", data := .fields #[vl, vu, vs] } }
  cases a with
  | list ds =>
    cases ef
    obtain ⟨p, xs, e1, s1', z1, r⟩ := ro_lst ra
    subst e1
    cases r1
    obtain ⟨its, r', ht, hz⟩ := I5.list (.inl (.inl s1'))
    have hlen := r'.length
    refine tail_any (ops := [.ref p, .ref s4.heap.objs.size]) ht.isList.typeIs (PySem.slot_list_getitem.lookup) ?_ (by with_unfolding_all rfl)
    refine wpAny_getItem_list_slice ht.isList (Heap.IsSliceOf.new _ vl vu vs) pl pu ps (by decide) ?_ (by rw [List.size_toArray]; omega)
    rw [PySem.W.krv_pick]
    refine ⟨.ref _, _, I5.laid (t' := s4.toks) (o := .lst xs.reverse) (fun b ob q => Heap.get?_push_of_some _ q) (Nat.le_refl _) ?_, rfl, q _ _ (rn_newLst r.reverse (by rw [List.length_reverse]; exact z1) (I5.hok.fresh (Nat.le_refl _)))⟩
    exact ⟨by rw [List.length_reverse]; exact hz, _, 0, r'.reverse, Heap.get?_push_size _ rfl⟩
  | tuple ds =>
    cases ef
    obtain ⟨p, xs, e1, s1', z1, r⟩ := ro_tup ra
    subst e1
    cases r1
    cases pl
    cases pu
    obtain ⟨its, r', ht, hz⟩ := I5.tuple s1'
    have hlen := r'.length
    refine tail_any (ops := [.ref p, .ref s4.heap.objs.size]) ht.typeIs (PyProof.Rows.slot_tuple_getitem.lookup) ?_ (by with_unfolding_all rfl)
    refine getItem_tuple_rev ht (Heap.IsSliceOf.new _ _ _ vs) ps ?_ (by rw [List.size_toArray]; omega)
    refine ⟨.ref _, _, I5.laid (t' := s4.toks) (o := .tup xs.reverse) (fun b ob q => Heap.get?_push_of_some _ q) (Nat.le_refl _) ?_, rfl, q _ _ (rn_newTup hd r.reverse (by rw [List.length_reverse]; exact z1) (I5.hok.fresh (Nat.le_refl _)))⟩
    exact ⟨by rw [List.length_reverse]; exact hz, _, r'.reverse, IsTup.new _ _⟩
  | _ => cases ef
end
end Mp

set_option maxRecDepth 100000
set_option maxHeartbeats 1000000
/-! MpS: sorted of alike data. -/
namespace Mp
open PySem PySem.Spec PyProof.Rows L2
theorem sortOk_ok {ds : List P} (h : sortOk ds = true) : PySem.W.AllAlike ds ∧ PySem.W.Sortable ds ∧ PyData.depthAll ds ≤ 60 := by
  unfold sortOk at h
  rw [Bool.and_eq_true, Bool.and_eq_true, Bool.or_eq_true, decide_eq_true_eq] at h
  obtain ⟨⟨h1, h2⟩, h3⟩ := h
  refine ⟨fun d hd d' hd' => List.all_eq_true.mp (List.all_eq_true.mp h1 d hd) d' hd', ?_, h3⟩
  rcases h2 with h2 | h2
  · refine .inl fun d hd => ?_
    have := List.all_eq_true.mp h2 d hd
    unfold tupNE at this
    split at this
    · exact ⟨_, _, rfl⟩
    · cases this
  · refine .inr fun d hd => ?_
    have := List.all_eq_true.mp h2 d hd
    unfold notNT at this
    split at this
    · cases this
    · cases this
    · rename_i n1 n2
      exact ⟨fun e => n1 e, fun xs e => n2 xs e⟩
theorem depth_mem : ∀ {ds : List P} {d : P}, d ∈ ds → d.depth ≤ PyData.depthAll ds
  | [], d, h => by cases h
  | x :: ds, d, h => by
    rcases List.mem_cons.mp h with rfl | h
    · exact Nat.le_max_left _ _
    · exact Nat.le_trans (depth_mem h) (Nat.le_max_right _ _)
theorem each_of {X : Cx} {pins : List (Addr × Obj)} {σ : L2.St} {H : Hp} {s : Shared} {W : Wd} (I : L2.Inv X pins σ H s) : ∀ {ds : List P} {vs : List V} {us : List Value}, RpA X.K W H ds vs → Vals vs us → PySem.W.EachIs (fun (u : Value) (b : V × P) => RelV b.1 u ∧ ∃ as, Reads s.heap u b.2 as) us (vs.zip ds)
  | _, _, _, .nil, .nil => .nil
  | _, _, _, .cons r rs, .cons q qs => .cons ⟨q, Dp.reads I _ _ _ (Rp.dp _ _ r) q⟩ (each_of I rs qs)
theorem each_vals {R : Value → V × P → Prop} (h : ∀ u b, R u b → RelV b.1 u) : ∀ {us : List Value} {bs : List (V × P)}, PySem.W.EachIs R us bs → Vals (bs.map (·.1)) us
  | _, _, .nil => .nil
  | _, _, .cons r rs => .cons (h _ _ r) (each_vals h rs)
theorem each_imp {R S : Value → V × P → Prop} (h : ∀ u b, R u b → S u b) : ∀ {us : List Value} {bs : List (V × P)}, PySem.W.EachIs R us bs → PySem.W.EachIs S us bs
  | _, _, .nil => .nil
  | _, _, .cons r rs => .cons (h _ _ r) (each_imp h rs)
theorem rpA_zip {K : PySem.W.Frag} {W : Wd} {H : Hp} : ∀ {ds : List P} {vs : List V}, RpA K W H ds vs → ∀ b ∈ vs.zip ds, Rp K W H b.2 b.1
  | _, _, .nil, b, hb => by cases hb
  | _, _, .cons r rs, b, hb => by
    rcases List.mem_cons.mp hb with rfl | hb
    · exact r
    · exact rpA_zip rs b hb
theorem rpA_of {K : PySem.W.Frag} {W : Wd} {H : Hp} : ∀ {bs : List (V × P)}, (∀ b ∈ bs, Rp K W H b.2 b.1) → RpA K W H (bs.map (·.2)) (bs.map (·.1))
  | [], _ => .nil
  | b :: bs, h => .cons (h b List.mem_cons_self) (rpA_of fun c hc => h c (List.mem_cons_of_mem _ hc))
theorem cD_sorted {X : Cx} (hu : Un X) : CallR X (.builtin "sorted") (rB X.K sortedP) := by
  intro pins s σ H xs us Q I r h
  obtain ⟨x, rfl, W, a, c, hd, ra, e, q⟩ := h
  cases a with
  | list ds =>
    unfold sortedP at e
    simp only at e
    split at e
    · rename_i hok
      cases e
      obtain ⟨p, vs, e1, s1, z1, r1⟩ := ro_lst ra
      subst e1
      obtain ⟨its, rv, hl, hz⟩ := I.list (.inl (.inl s1))
      obtain ⟨u, rfl, ru⟩ := vals1 r
      cases ru
      have hlen := r1.length
      have hsnd : (vs.zip ds).map Prod.snd = ds := List.map_snd_zip (by omega)
      obtain ⟨o1, o2, o3⟩ := sortOk_ok hok
      have ea := each_of I r1 rv
      refine PySem.W.sorted_data (R := fun (u : Value) (b : V × P) => RelV b.1 u) (enc := Prod.snd) (bs := vs.zip ds) hl.isList (each_imp (fun _ _ h => h.1) ea) (each_imp (fun _ _ h => h.2) ea) (by rw [hsnd]; exact o1) (by rw [hsnd]; exact o2) (by rw [List.length_zip, ← hlen, Nat.min_self]; rw [hlen]; exact z1) (fun b hb => ?_) fun out ho eo => ?_
      · have h1 : b.2 ∈ ds := by rw [← hsnd]; exact List.mem_map.mpr ⟨b, hb, rfl⟩
        have h2 := depth_mem h1
        have h3 : X.A.units + 70 < cLine := hu
        omega
      · obtain ⟨ep, he'⟩ := PyProof.Rows.sortedAll_at s.heap its (List.toArray out)
        have hperm : ((vs.zip ds).mergeSort (PySem.W.dataLe false Prod.snd)).Perm (vs.zip ds) := List.mergeSort_perm _ _
        have hv := each_vals (fun _ _ h => h) eo
        have hn : H (s.heap.objs.size + 1) = none := I.hok.fresh (Nat.le_succ _)
        have hl2 : (((vs.zip ds).mergeSort (PySem.W.dataLe false Prod.snd)).map (·.1)).length ≤ sizeLine := by
          rw [List.length_map, hperm.length_eq, List.length_zip, ← hlen, Nat.min_self, hlen]; exact z1
        refine ⟨.ref _, upd H (s.heap.objs.size + 1) (.lst (((vs.zip ds).mergeSort (PySem.W.dataLe false Prod.snd)).map (·.1))), I.laid (t' := s.toks) (fun _ _ => PyProof.Rows.sortedAll_old) (Nat.le_succ _) ⟨hl2, out, ep, hv, he'⟩, rfl, ?_⟩
        refine q _ _ (grow_upd hn) (.lst upd_same (fun w => ?_) hl2 ?_)
        · obtain ⟨o, eo, _⟩ := hd _ w
          rw [hn] at eo
          cases eo
        · have e4 : sortP ds = ((vs.zip ds).mergeSort (PySem.W.dataLe false Prod.snd)).map Prod.snd := by
            have e5 : sortP ((vs.zip ds).map Prod.snd) = ((vs.zip ds).mergeSort (PySem.W.dataLe false Prod.snd)).map Prod.snd :=
              by rw [sortP_eq]; exact (List.map_mergeSort (f := Prod.snd) (r := PySem.W.dataLe false Prod.snd) (s := PySem.W.dataLe false fun x => x) fun a _ b _ => rfl).symm
            rw [hsnd] at e5
            exact e5
          rw [e4]
          exact Stay.rpA (Stay.grow hd (grow_upd hn)) (rpA_of fun b hb => rpA_zip r1 b (hperm.mem_iff.mp hb))
    · cases e
  | _ => cases e
/-! max, min of a list of ints -/
theorem intsP_some : ∀ {xs : List P} {ns : List Int}, intsP xs = some ns → xs = ns.map PyData.int
  | [], ns, h => by cases h; rfl
  | x :: xs, ns, h => by
    cases x <;> first
      | (simp only [intsP, Option.map_eq_some_iff] at h
         obtain ⟨r, h1, h2⟩ := h
         subst h2
         rw [List.map_cons, ← intsP_some h1])
      | cases h
theorem rpA_intV {K : PySem.W.Frag} {W : Wd} {H : Hp} : ∀ {ns : List Int} {vs : List V}, RpA K W H (ns.map PyData.int) vs → vs = ns.map V.int
  | [], _, h => by cases h; rfl
  | n :: ns, _, h => by
    cases h with
    | cons r rs => cases r; rw [rpA_intV rs]; rfl
theorem best_of (le : Int → Int → Bool) (anti : ∀ a b, le a b = true → le b a = true → a = b) (tr : ∀ a b c, le a b = true → le b c = true → le a c = true) (tot : ∀ a b, le a b = true ∨ le b a = true) {m : Int} : ∀ {ns : List Int} {n : Int}, m ∈ n :: ns → (∀ y ∈ n :: ns, le y m = true) → bestI le n ns = m
  | [], n, h, _ => by
    rcases List.mem_cons.mp h with rfl | h
    · rfl
    · cases h
  | y :: ns, n, h, ha => by
    unfold bestI
    refine best_of le anti tr tot ?_ fun z hz => ?_
    · by_cases hb : le n y = true
      · rw [if_pos hb]
        rcases List.mem_cons.mp h with rfl | h
        · have := anti _ _ hb (ha y (by simp))
          rw [this]; exact List.mem_cons_self
        · exact h
      · rw [if_neg hb]
        rcases List.mem_cons.mp h with rfl | h
        · exact List.mem_cons_self
        · rcases List.mem_cons.mp h with rfl | h
          · have h1 := ha n (by simp)
            exact absurd h1 hb
          · exact List.mem_cons_of_mem _ h
    · rcases List.mem_cons.mp hz with rfl | hz
      · split
        · exact ha y (by simp)
        · exact ha n (by simp)
      · exact ha z (List.mem_cons_of_mem _ (List.mem_cons_of_mem _ hz))
theorem cD_max {X : Cx} (hc : X.calm = true) : CallR X (.builtin "max") (rB X.K maxP) := by
  refine CallR.imp (cr_max hc) fun xs H Q h => ?_
  obtain ⟨x, rfl, W, a, c, hd, ra, e, q⟩ := h
  cases a with
  | list ds =>
    unfold maxP at e
    simp only at e
    split at e
    · rename_i n ns hn
      cases e
      have e1 := intsP_some hn
      subst e1
      obtain ⟨p, vs, e2, s1, z1, r1⟩ := ro_lst ra
      subst e2
      have e3 := rpA_intV r1
      subst e3
      refine ⟨p, n :: ns, rfl, .inl (.inl s1), by simp, fun m hm hb => ?_⟩
      have := best_of (fun a b => decide (a ≤ b)) (by simp; omega) (by simp; omega) (by simp; omega) hm (fun y hy => by simpa using hb y hy)
      rw [← this]
      exact q _ _ (fun _ _ e => e) (.int _)
    · cases e
  | _ => cases e
theorem cD_min {X : Cx} (hc : X.calm = true) : CallR X (.builtin "min") (rB X.K minP) := by
  refine CallR.imp (cr_min hc) fun xs H Q h => ?_
  obtain ⟨x, rfl, W, a, c, hd, ra, e, q⟩ := h
  cases a with
  | list ds =>
    unfold minP at e
    simp only at e
    split at e
    · rename_i n ns hn
      cases e
      have e1 := intsP_some hn
      subst e1
      obtain ⟨p, vs, e2, s1, z1, r1⟩ := ro_lst ra
      subst e2
      have e3 := rpA_intV r1
      subst e3
      refine ⟨p, n :: ns, rfl, .inl (.inl s1), by simp, fun m hm hb => ?_⟩
      have := best_of (fun a b => decide (b ≤ a)) (by simp; omega) (by simp; omega) (by simp; omega) hm (fun y hy => by simpa using hb y hy)
      rw [← this]
      exact q _ _ (fun _ _ e => e) (.int _)
    · cases e
  | _ => cases e
end Mp

set_option maxRecDepth 100000
set_option maxHeartbeats 1000000
/-! MpT: sorted over a tuple: its items are collected as a list's are. -/
namespace Mp
open PySem PySem.Calls PyProof.Rows
section
variable {prog : Program} {w : World} {A : Around} {E : Value → Shared → Prop} {s : Shared}
theorem collect_tup {l : Addr} {vs : List Value} {Q : List Value → Shared → Prop} (hl : IsTup s.heap l vs.toArray) (hz : vs.length ≤ sizeLine)
    (h : Q vs { s with heap := (s.heap.push (seqObj "list" #[] 0)).update s.heap.objs.size (Obj.mapSeq (· ++ vs.toArray)) }) : wpAny (model prog w) A (collect (.ref l)) Q E s := by
  obtain ⟨o, o1, o2, n, o3⟩ := hl
  have o4 : (s.heap.push (seqObj "list" #[] 0)).get? l = some o := Heap.get?_push_of_some _ o1
  unfold collect
  refine wpAny_bind (wpAny_runValue (codeAny_builtin entry_proto_collect' ?_))
  refine wpAny_bind (m := newList []) (wpAny_newList (wpAny_pure ⟨Code.quiet_builtin _ (by decide +kernel), codeAny_builtin entry_list_iadd' ?_⟩))
  show wpAny _ _ (Builtin.List.listExtendWith _ (.ref l) _) _ _ { s with heap := s.heap.push (seqObj "list" #[] 0) }
  unfold Builtin.List.listExtendWith
  refine wpAny_bind (wpAny_typeOf (T := "tuple") ⟨o, o4, o2⟩ ?_)
  have t1 : (Value.type "tuple" == Value.type "tuple") = true := by rfl
  rw [if_pos (by rw [t1]; simp)]
  refine wpAny_bind (listItems_at o4 o3 ?_)
  refine wpAny_bind (listItems_at (xs := #[]) (n := 0) (Heap.get?_push_size _ rfl) rfl ?_)
  rw [if_neg (by simp)]
  have sz : ((#[] : Array Value) ++ vs.toArray).size ≤ sizeLine + 1 := by
    simp only [Array.size_append, List.size_toArray, List.length_nil]
    omega
  refine wpAny_bind (listUpdate_at (xs := #[]) (n := 0) (Heap.get?_push_size _ rfl) rfl ?_ (Nat.zero_le _) sz)
  refine wpAny_pure ?_
  refine wpAny_bind (m := load s.heap.objs.size) (wpAny_load (get?_update_seq (Heap.get?_push_size _ rfl) _) ?_)
  have e1 : ((#[] : Array Value) ++ vs.toArray).toList = vs := by simp
  show wpAny _ _ (pure ((#[] : Array Value) ++ vs.toArray).toList) Q E _
  rw [e1]
  exact wpAny_pure h
/-- a list or a tuple of these items -/
def SeqIs (h : Heap) (l : Addr) (vs : List Value) : Prop := h.IsList l vs.toArray ∨ IsTup h l vs.toArray
theorem collect_seq {l : Addr} {vs : List Value} {Q : List Value → Shared → Prop} (hl : SeqIs s.heap l vs) (hz : vs.length ≤ sizeLine)
    (h : Q vs { s with heap := (s.heap.push (seqObj "list" #[] 0)).update s.heap.objs.size (Obj.mapSeq (· ++ vs.toArray)) }) : wpAny (model prog w) A (collect (.ref l)) Q E s :=
  hl.elim (fun hl => collect_list hl h hz) fun hl => collect_tup hl hz h
/-- sorted(x, ..) sorts a new list of x's items -/
theorem sorted_seq {l : Addr} {vs : List Value} {kw : List (Str × Value)} {Q : Value → Shared → Prop} (hl : SeqIs s.heap l vs) (hz : vs.length ≤ sizeLine) (a1 : argsOk "sorted" ⟨[.ref l], kw⟩) (a2 : ∀ x, argsOk "list.sort" ⟨[.ref x], kw⟩)
    (h : ∀ E1 : Value → Shared → Prop, wpAny (model prog w) A.in1.in1 (Builtin.«list.sort» ⟨[.ref (s.heap.objs.size + 1)], kw⟩) (fun r s1 => r = .done (.ret .none) ∧ Q (.ref (s.heap.objs.size + 1)) s1) E1 { s with heap := PySem.W.copyHeap s.heap vs }) :
    wpAny (model prog w) A (call (.builtin "sorted") [.ref l] kw) Q E s := by
  have sz : ((s.heap.push (seqObj "list" #[] 0)).update s.heap.objs.size (Obj.mapSeq (· ++ vs.toArray))).objs.size = s.heap.objs.size + 1 := by rw [Heap.size_update, size_push']
  refine call_function_entry_kw kind_sorted plain_sorted entry_sorted a1 ?_
  unfold Builtin.«sorted»
  refine wpAny_bind (m := checkCount "sorted" 1 1 _) (wpAny_pure (wpAny_bind (collect_seq hl hz (wpAny_bind (wpAny_newList ?_ hz)))))
  show wpAny _ _ _ _ _ { s with heap := PySem.W.copyHeap s.heap vs }
  rw [sz]
  refine wpAny_bind (wpAny_holding (wpAny_call_entry_kw slot_list_sort ⟨_, PySem.W.copyHeap_at s.heap vs, rfl⟩ entry_list_sort (wpAny_mono (h _) (fun r s1 hq => ?_) fun _ _ e => e) (a2 _)))
  exact ⟨_, hq.1, wpAny_pure ⟨_, rfl, hq.2⟩⟩
end
end Mp

set_option maxRecDepth 100000
set_option maxHeartbeats 1000000
/-! MpK: sorted by keys that a call tells: all is kept but the slots of frames. -/
namespace Mp
open PySem PySem.Calls PyProof.Rows

/-- what stands in h and not in ex stands in h'; slots may differ at fs -/
def KF (fs : List Addr) (ex : Addr → Prop) (h h' : Heap) : Prop := ∀ b o, ¬ ex b → h.get? b = some o → ∃ sl, h'.get? b = some { o with slots := sl } ∧ (b ∉ fs → sl = o.slots)
def exN : Addr → Prop := fun _ => False
def ex1 (a : Addr) : Addr → Prop := fun b => b = a
section
variable {fs : List Addr} {ex : Addr → Prop} {h h1 h2 : Heap} {a : Addr} {o : Obj}
theorem KF.at_ (k : KF fs ex h h1) (e : h.get? a = some o) (n : ¬ ex a) (nf : a ∉ fs) : h1.get? a = some o := by
  obtain ⟨sl, q, z⟩ := k a o n e
  have z' := z nf
  subst z'
  exact q
theorem KF.refl : KF fs ex h h := fun b o _ e => ⟨o.slots, e, fun _ => rfl⟩
theorem KF.trans (k : KF fs ex h h1) (k2 : KF fs ex h1 h2) : KF fs ex h h2 := fun b o n e => by
  obtain ⟨sl, q, z⟩ := k b o n e
  obtain ⟨sl2, q2, z2⟩ := k2 b _ n q
  exact ⟨sl2, q2, fun nf => (z2 nf).trans (z nf)⟩
theorem KF.weak {ex' : Addr → Prop} (k : KF fs ex h h1) (w : ∀ b, ex b → ex' b) : KF fs ex' h h1 := fun b o n e => k b o (fun z => n (w b z)) e
/-- where all of h but c stays -/
theorem KF.but {c : Addr} (k : KF fs ex h h1) (s : ∀ b o, b ≠ c → h1.get? b = some o → h2.get? b = some o) (hc : ex c ∨ h.get? c = none) : KF fs ex h h2 := fun b o n e => by
  obtain ⟨sl, q, z⟩ := k b o n e
  refine ⟨sl, s b _ (fun y => ?_) q, z⟩
  subst y
  rcases hc with hc | hc
  · exact n hc
  · rw [e] at hc; cases hc
theorem KF.of (s : ∀ b o, ¬ ex b → h.get? b = some o → h1.get? b = some o) : KF fs ex h h1 := fun b o n e => ⟨o.slots, s b o n e, fun _ => rfl⟩
mutual
theorem reads_kf (k : KF fs exN h h1) : ∀ (d : PyData) (v : Value) (as : List Addr), Reads h v d as → Reads h1 v d as
  | .none, _, _, r => by cases r; exact .none
  | .bool _, _, _, r => by cases r; exact .bool _
  | .int _, _, _, r => by cases r; exact .int _ _
  | .str _, _, _, r => by cases r; exact .str _ _
  | .list xs, _, _, r => by
    cases r with
    | list e c d ra =>
      obtain ⟨sl, q, _⟩ := k _ _ (fun z => z) e
      exact .list q c d (readsAll_kf k xs _ _ ra)
  | .tuple xs, _, _, r => by
    cases r with
    | tuple e c d ra =>
      obtain ⟨sl, q, _⟩ := k _ _ (fun z => z) e
      exact .tuple q c d (readsAll_kf k xs _ _ ra)
  | .dict kvs, _, _, r => by
    cases r with
    | dict e c d r1 r2 =>
      obtain ⟨sl, q, _⟩ := k _ _ (fun z => z) e
      exact .dict q c d (readsKey_kf k kvs _ _ r1) (readsVal_kf k kvs _ _ r2)
theorem readsAll_kf (k : KF fs exN h h1) : ∀ (ds : List PyData) (vs : List Value) (as : List Addr), ReadsAll h vs ds as → ReadsAll h1 vs ds as
  | [], _, _, r => by cases r; exact .nil
  | d :: ds, _, _, r => by
    cases r with
    | cons r1 r2 => exact .cons (reads_kf k d _ _ r1) (readsAll_kf k ds _ _ r2)
theorem readsKey_kf (k : KF fs exN h h1) : ∀ (ds : List (PyData × PyData)) (vs : List Value) (as : List Addr), ReadsAll h vs (ds.map (·.1)) as → ReadsAll h1 vs (ds.map (·.1)) as
  | [], _, _, r => by cases r; exact .nil
  | (d, _) :: ds, _, _, r => by
    cases r with
    | cons r1 r2 => exact .cons (reads_kf k d _ _ r1) (readsKey_kf k ds _ _ r2)
theorem readsVal_kf (k : KF fs exN h h1) : ∀ (ds : List (PyData × PyData)) (vs : List Value) (as : List Addr), ReadsAll h vs (ds.map (·.2)) as → ReadsAll h1 vs (ds.map (·.2)) as
  | [], _, _, r => by cases r; exact .nil
  | (_, d) :: ds, _, _, r => by
    cases r with
    | cons r1 r2 => exact .cons (reads_kf k d _ _ r1) (readsVal_kf k ds _ _ r2)
end
end
/-- from state to state -/
structure KS (fs : List Addr) (ex : Addr → Prop) (s s' : Shared) : Prop where
  os : s'.os = s.os
  bare : AllBare s.gens → AllBare s'.gens
  kf : KF fs ex s.heap s'.heap
theorem KS.refl {fs : List Addr} {ex : Addr → Prop} {s : Shared} : KS fs ex s s := ⟨rfl, id, KF.refl⟩
theorem KS.trans {fs : List Addr} {ex : Addr → Prop} {s s1 s2 : Shared} (a : KS fs ex s s1) (b : KS fs ex s1 s2) : KS fs ex s s2 := ⟨b.os.trans a.os, fun z => b.bare (a.bare z), a.kf.trans b.kf⟩
theorem KS.heap {fs : List Addr} {ex : Addr → Prop} {s s1 : Shared} (a : KS fs ex s s1) {h : Heap} {t : Nat} (k : KF fs ex s.heap h) : KS fs ex s { s1 with heap := h, toks := t } := ⟨a.os, a.bare, k⟩

section
variable {prog : Program} {w : World} {A : Around} {E : Value → Shared → Prop} {s0 s : Shared} {fs : List Addr} {a kS : Addr} {b : Bool} {vs : List Value} {kz : List PyData} {e1 : Nat} {P : PySem.Fin → Shared → Prop}
/-- a key's call: it tells k, and leaves the rest -/
def KeyF (fs : List Addr) (k : PyData) (s1 : Shared) (v : Value) (s2 : Shared) : Prop := KS fs exN s1 s2 ∧ Reads s2.heap v k []
/-- the keys told so far -/
abbrev Told (h : Heap) (ks : Array Value) (ds : List PyData) : Prop := PySem.W.EachIs (fun v d => Reads h v d [] ∧ PySem.W.alike d d = true) ks.toList ds

theorem kf_rest {f : Value} (ks : KS fs (ex1 a) s0 s) (nfa : a ∉ fs) (nfk : kS ∉ fs) (hkS : s0.heap.get? kS = none) (hka : kS ≠ a) (nk : s.heap.get? kS = some (seqObj "list" #[] 0)) (na : s.heap.get? a = some (seqObj "list" #[] e1))
    (hlen : kz.length = vs.length) (hZ : vs.length ≤ sizeLine) (hal : PySem.W.AllAlike kz) (hsk : PySem.W.Sortable kz) (hu : ∀ d, d ∈ kz → A.units + d.depth < cLine)
    (turn : ∀ (i : Nat) (v : Value) (k : PyData), vs[i]? = some v → kz[i]? = some k → ∀ s1, KS fs (ex1 a) s0 s1 → wpAny (model prog w) A (call f [v]) (KeyF fs k s1) (fun _ _ => False) s1)
    (h : ∀ s1 out c, KS fs (ex1 a) s0 s1 → s1.heap.get? a = some (seqObj "list" (List.toArray out) c) → PySem.W.KeyedOut b kz vs out → P (.done (.ret .none)) s1) :
    wpAny (model prog w) A (PyProof.Rows.ksk_rest a f b vs.toArray e1 (.ref kS)) P E s := by
  have all : kz.take (0 + vs.length) = kz := List.take_of_length_le (by omega)
  unfold ksk_rest
  refine wpAny_bind (wpAny_rule ?_)
  first
    | rw [List.forIn_toArray]
    | (rw [← Array.forIn_toList]; simp only [List.toList_toArray])
    | rw [← Array.forIn_toList]
  let J : Nat → Shared → Prop := fun i s1 => KS fs (ex1 a) s0 s1 ∧ s1.heap.get? a = some (seqObj "list" #[] e1) ∧ ∃ kA e, s1.heap.get? kS = some (seqObj "list" kA e) ∧ Told s1.heap kA (kz.take i)
  refine wpAny_bind (PyProof.Rows.ksk_fold J vs 0 s ⟨ks, na, #[], 0, nk, by rw [List.take_zero]; exact .nil⟩ (fun j x s1 hx q => ?_) fun s1 q => ?_)
  · obtain ⟨k1, n1, kA, e, n2, ht⟩ := q
    rw [Nat.zero_add] at ht
    have hj : j < vs.length := (List.getElem?_eq_some_iff.mp hx).1
    have hkj : kz[j]? = some kz[j] := List.getElem?_eq_getElem (by omega)
    generalize kz[j]'(by omega) = k at hkj
    have mk : k ∈ kz := List.mem_of_getElem? hkj
    have sz : kA.size = j := by
      have := ht.length
      rw [Array.length_toList, List.length_take] at this
      omega
    refine wpAny_bind (wpAny_attempt (wpAny_mono (turn j x k hx hkj s1 k1) (fun v s2 q2 => ?_) fun _ _ z => z.elim))
    obtain ⟨k2, hr⟩ := q2
    try dsimp only
    have a2 := k2.kf.at_ n1 (fun z => z) nfa
    have c2 := k2.kf.at_ n2 (fun z => z) nfk
    have sb := Heap.SameBut.update s2.heap kS (Obj.mapSeq (·.push v))
    obtain ⟨m, hm⟩ : ∃ m, (s2.heap.update kS (Obj.mapSeq (·.push v))).get? kS = some (seqObj "list" (kA.push v) m) := ⟨_, get?_update_seq c2 (·.push v)⟩
    refine wpAny_bind (listUpdate_at c2 rfl ?_ (by omega) (by rw [Array.size_push]; omega))
    have stay : ∀ (u : Value) (d : PyData), Reads s2.heap u d [] ∧ PySem.W.alike d d = true → Reads (s2.heap.update kS (Obj.mapSeq (·.push v))) u d [] ∧ PySem.W.alike d d = true := fun u d q => by
      refine ⟨PySem.W.Reads.keepBut (a := kS) (fun c o hc e => ?_) (fun o e => ?_) d u [] q.2 q.1 (by simp), q.2⟩
      · exact (sb.2 c hc).trans e
      · rw [c2] at e
        cases e; rfl
    refine wpAny_pure ⟨rfl, ⟨?_, ?_, ?_⟩, (sb.2 a hka.symm).trans a2, kA.push v, m, hm, ?_⟩
    · exact k2.os.trans k1.os
    · exact fun z => k2.bare (k1.bare z)
    · exact (k1.kf.trans (k2.kf.weak fun _ z => z.elim)).but (c := kS) (fun c o hc e => (sb.2 c hc).trans e) (.inr hkS)
    · have e5 : kz.take (0 + j + 1) = kz.take j ++ [k] := by rw [Nat.zero_add, List.take_add_one, hkj]; rfl
      show PySem.W.EachIs _ (kA.push v).toList _
      rw [e5, Array.toList_push]
      exact PySem.W.each_snoc (R := fun (u : Value) (d : PyData) => Reads (s2.heap.update kS (Obj.mapSeq (·.push v))) u d [] ∧ PySem.W.alike d d = true) (stay v k ⟨hr, hal k mk k mk⟩) (ht.mono fun u d q => stay u d ⟨reads_kf k2.kf d u [] q.1, q.2⟩)
  · obtain ⟨k1, n1, kA, e, n2, ht⟩ := q
    rw [all] at ht
    have ht' := ht.mono (R' := fun v d => ∃ as, Reads s1.heap v d as) fun v d q => ⟨[], q.1⟩
    have sz : kA.size = vs.length := by
      have := ht.length
      rw [Array.length_toList] at this
      omega
    try dsimp only
    refine wpAny_bind (listItems_at n2 rfl ?_)
    obtain ⟨g, g1, g2⟩ := L2.restrict s1.heap (fun c => decide (c ≠ kS))
    have gk : g.get? kS = none := g2 kS (by simp)
    have kp : PySem.W.KeepsBut a g s1.heap := fun c o _ e => by
      by_cases hc : c = kS
      · rw [hc, gk] at e; cases e
      · rw [← g1 c (by simpa using hc)]; exact e
    refine PySem.W.keyH_end (κ := PySem.W.dataKind s1.heap kz) kp gk n2 n1 hka (PySem.W.SortsAt.data ht' hal hsk hu) sz hZ fun h3 t3 c3 k3 n3 => ?_
    refine h _ _ c3 ⟨k1.os, k1.bare, fun c o n e => ?_⟩ n3 ⟨s1.heap, kA.toList, hal, rfl, ht'⟩
    obtain ⟨sl, e2, z⟩ := k1.kf c o n e
    have hc : c ≠ kS := fun y => by rw [y, hkS] at e; cases e
    exact ⟨sl, k3 c _ n ((g1 c (by simpa using hc)).trans e2), z⟩

theorem kf_tree {f : Value} {n : Nat} (fsL : ∀ c ∈ fs, c < s.heap.objs.size) (nfa : a ∉ fs) (ho : s.heap.get? a = some (seqObj "list" vs.toArray n)) (hlen : kz.length = vs.length) (hZ : vs.length ≤ sizeLine) (hal : PySem.W.AllAlike kz) (hsk : PySem.W.Sortable kz) (hu : ∀ d, d ∈ kz → A.units + d.depth < cLine)
    (turn : ∀ (i : Nat) (v : Value) (k : PyData), vs[i]? = some v → kz[i]? = some k → ∀ s1, KS fs (ex1 a) s s1 → wpAny (model prog w) A (call f [v]) (KeyF fs k s1) (fun _ _ => False) s1)
    (h : ∀ s1 out c, KS fs (ex1 a) s s1 → s1.heap.get? a = some (seqObj "list" (List.toArray out) c) → PySem.W.KeyedOut b kz vs out → P (.done (.ret .none)) s1) :
    wpAny (model prog w) A (PyProof.Rows.ksk_tree a f b) P E s := by
  have lt : a < s.heap.objs.size := Heap.lt_size ho
  obtain ⟨m, hm⟩ : ∃ m, (s.heap.update a (Obj.mapSeq fun _ => (#[] : Array Value))).get? a = some (seqObj "list" #[] m) := ⟨_, get?_update_seq ho fun _ => #[]⟩
  have sz : ((s.heap.update a (Obj.mapSeq fun _ => (#[] : Array Value))).push (seqObj "tuple" vs.toArray 0)).objs.size = s.heap.objs.size + 1 := by rw [size_push', Heap.size_update]
  unfold PyProof.Rows.ksk_tree
  refine wpAny_bind (listItems_at ho rfl ?_)
  refine wpAny_bind (listUpdate_at ho rfl ?_ (by simpa using hZ) (Nat.zero_le _))
  refine wpAny_bind (seqEpoch_at hm rfl ?_)
  refine wpAny_bind (wpAny_newTuple ?_ hZ)
  refine wpAny_bind (wpAny_newList ?_ (Nat.zero_le _))
  refine wpAny_holding (kf_rest (s0 := s) (s := { s with heap := PySem.W.sortingHeap s.heap a vs }) (kS := ((s.heap.update a (Obj.mapSeq fun _ => (#[] : Array Value))).push (seqObj "tuple" vs.toArray 0)).objs.size) ⟨rfl, id, KF.of fun c o hc e => PySem.W.sortingHeap_old hc e⟩ nfa ?_ ?_ ?_ ?_ ?_ hlen hZ hal hsk hu turn h)
  · rw [sz]; exact fun z => Nat.lt_irrefl _ (Nat.lt_trans (Nat.lt_succ_self _) (fsL _ z))
  · rw [sz]; exact Heap.get?_none_of_le (Nat.le_succ _)
  · rw [sz]; exact Nat.ne_of_gt (Nat.lt_succ_of_lt lt)
  · exact Heap.get?_push_size _ rfl
  · exact Heap.get?_push_of_some _ (Heap.get?_push_of_some _ hm)
/-- sorted(xs, key=f) -/
theorem kf_sorted {β : Type} {bs : List β} {R : Value → β → Prop} {l : Addr} {f : Value} {kw : List (Str × Value)} {Q : Value → Shared → Prop} (k : β → PyData) (fsL : ∀ c ∈ fs, c < s.heap.objs.size) (hl : SeqIs s.heap l vs) (e : PySem.W.EachIs R vs bs)
    (hal : PySem.W.AllAlike (bs.map k)) (hk : PySem.W.Sortable (bs.map k)) (hL : bs.length ≤ sizeLine) (hu : ∀ x, x ∈ bs → A.units + 2 + (k x).depth < cLine) (ha1 : argsOk "sorted" ⟨[.ref l], kw⟩) (ha2 : ∀ x, argsOk "list.sort" ⟨[.ref x], kw⟩) (ht : ∀ x, Builtin.«list.sort» ⟨[.ref x], kw⟩ = PyProof.Rows.ksk_tree x f b)
    (turn : ∀ (v : Value) (x : β), R v x → x ∈ bs → ∀ s1, KS fs exN s s1 → wpAny (model prog w) A.in1.in1 (call f [v]) (KeyF fs (k x) s1) (fun _ _ => False) s1)
    (h : ∀ s1 out c, KS fs exN s s1 → s.heap.get? (s.heap.objs.size + 1) = none → s1.heap.get? (s.heap.objs.size + 1) = some (seqObj "list" (List.toArray out) c) → out.length = bs.length → PySem.W.EachIs R out (bs.mergeSort (PySem.W.dataLe b k)) → Q (.ref (s.heap.objs.size + 1)) s1) :
    wpAny (model prog w) A (call (.builtin "sorted") [.ref l] kw) Q E s := by
  have el := e.length
  have fresh : s.heap.get? (s.heap.objs.size + 1) = none := Heap.get?_none_of_le (by omega)
  have szc : s.heap.objs.size + 1 < (PySem.W.copyHeap s.heap vs).objs.size := Heap.lt_size (PySem.W.copyHeap_at s.heap vs)
  have old : ∀ {s1 : Shared}, KS fs (ex1 (s.heap.objs.size + 1)) { s with heap := PySem.W.copyHeap s.heap vs } s1 → KS fs exN s s1 := fun {s1} ks =>
    ⟨ks.os, ks.bare, fun c o _ e => ks.kf c o (fun z => by have z : c = _ := z; rw [z, fresh] at e; cases e) (PySem.W.copyHeap_old e)⟩
  refine sorted_seq hl (by rw [el]; exact hL) ha1 ha2 fun E' => ?_
  rw [ht]
  refine kf_tree (kz := bs.map k) (fs := fs) (s := { s with heap := PySem.W.copyHeap s.heap vs }) (fun c hc => ?_) (fun z => Nat.lt_irrefl _ (Nat.lt_trans (Nat.lt_succ_self _) (fsL _ z))) (PySem.W.copyHeap_at s.heap vs) (by rw [List.length_map]; exact el.symm) (by rw [el]; exact hL) hal hk (PySem.W.bound_map (A := A.in1.in1) hu) (fun i v d hv hd s1 ks => ?_) fun s1 out c ks hD ko => ⟨rfl, ?_⟩
  · exact Nat.lt_trans (fsL c hc) (Nat.lt_trans (Nat.lt_succ_self _) szc)
  · rw [List.getElem?_map] at hd
    obtain ⟨x, e1, e2⟩ := Option.map_eq_some_iff.mp hd
    subst e2
    have hz : (v, x) ∈ vs.zip bs := List.mem_of_getElem? (i := i) (by rw [List.getElem?_zip_eq_some]; exact ⟨hv, e1⟩)
    exact turn v x (e.zip _ hz) (List.mem_of_getElem? e1) s1 (old ks)
  · exact h s1 out c (old ks) fresh hD ((ko.length (by rw [List.length_map]; exact el.symm)).trans el) (PySem.W.keyedOut_each k ko e)
end
end Mp

set_option maxRecDepth 100000
set_option maxHeartbeats 4000000
/-! Mp4: readings by the evaluator: results, sequences, operators. -/
namespace Mp
open PySem PySem.Spec PyProof.Rows L2

/-- what there is -/
abbrev Ex_ (H : Hp) : Wd := fun a => H a ≠ none
/-- a result stands at v; W0: what there was where the evaluation began -/
def RpR (K : PySem.W.Frag) (fa : FT) (W0 W : Wd) (ρ : Env) (σ : L2.St) (H : Hp) : RV → V → Prop
  | .sh x, v => RpD K fa W H x v
  | .fr x, v => ∃ a, v = V.ref a ∧ W a ∧ ¬ W0 a ∧ ¬ Ow ρ σ a ∧ RpO K W H x a
  | .br j, v => σ[j]? = some (some v) ∧ ∃ l x, ρ[j]? = some (Sl.own l x)
/-- an exception: its class, its own dict -/
def RpX (ca : FA) (e : Ex) (c : Value) (d : Option Addr) (H : Hp) : Prop := c = .ref (ca e.c) ∧ e.fs = [] ∧ d = none

structure Ctx where
  K : PySem.W.Frag
  fa : FT
  ca : FA
  Wx : WX
variable (C : Ctx)
/-- what is wanted of an evaluation that began at ρ, H -/
def Oc (W : Wd) (ρ : Env) (σ : L2.St) (H : Hp) (Q : VK) : R RV → Prop
  | .ok r ρ' => ∀ W' v H', FxE C.K C.fa W ρ σ H W' ρ' H' → RpR C.K C.fa (Ex_ H) W' ρ' σ H' r v → Q v H'
  | .ex e ρ' => ∀ c d W' H', FxE C.K C.fa W ρ σ H W' ρ' H' → RpX C.ca e c d H' → C.Wx c d σ H'
  | .bad => False
def OcG {α : Type} (W : Wd) (ρ : Env) (σ : L2.St) (H : Hp) (Q : α → Env → Wd → Hp → Prop) : R α → Prop
  | .ok r ρ' => ∀ W' H', FxE C.K C.fa W ρ σ H W' ρ' H' → Q r ρ' W' H'
  | .ex e ρ' => ∀ c d W' H', FxE C.K C.fa W ρ σ H W' ρ' H' → RpX C.ca e c d H' → C.Wx c d σ H'
  | .bad => False
/-- a reading by the evaluator -/
def rd (f : Env → R RV) : TE := fun σ H Q => ∃ W ρ, RS C.K C.fa W ρ σ H ∧ Oc C W ρ σ H Q (f ρ)
def rdT (f : Env → R Bool) : TT := fun σ H Q => ∃ W ρ, RS C.K C.fa W ρ σ H ∧ OcG C W ρ σ H (fun b _ _ H' => Q b H') (f ρ)
variable {C}

section
variable {K : PySem.W.Frag} {fa : FT} {W W0 W1 W2 : Wd} {ρ ρ0 ρ1 ρ2 : Env} {σ : L2.St} {H H0 H1 H2 : Hp} {Q : VK} {v : V}
theorem RpR.base {r : RV} (h : RpR K fa W1 W ρ σ H r v) (m : ∀ a, W0 a → W1 a) : RpR K fa W0 W ρ σ H r v := by
  cases r with
  | sh x => exact h
  | fr x =>
    obtain ⟨a, e, w, n, o, r⟩ := h
    exact ⟨a, e, w, fun z => n (m a z), o, r⟩
  | br j => exact h
theorem RpO.there {x : D} {a : Addr} (h : RpO K W H x a) : ∃ o, H a = some o ∧ Mut (some o) := by
  cases x with
  | d x =>
    cases x with
    | list ds => obtain ⟨xs, h1, _⟩ := h; exact ⟨_, h1, trivial⟩
    | _ => exact h.elim
  | dct ks vs => obtain ⟨kvs, h1, _⟩ := h; exact ⟨_, h1, trivial⟩
  | _ => exact h.elim
theorem RpR.pers {r : RV} (rs : RS K fa W1 ρ1 σ H1) (f : FxE K fa W1 ρ1 σ H1 W2 ρ2 H2) (h : RpR K fa W0 W1 ρ1 σ H1 r v) : RpR K fa W0 W2 ρ2 σ H2 r v := by
  cases r with
  | sh x => exact (f.stay rs).rpD h
  | fr x =>
    obtain ⟨a, e, w, n, o, r⟩ := h
    refine ⟨a, e, f.wm a w, n, fun z => o ((f.owIff a).mp z), (f.stay rs).rpO r fun u nt hu => f.fr a u hu o nt⟩
  | br j =>
    obtain ⟨e, l, x, h⟩ := h
    obtain ⟨x', h'⟩ := f.sh j l x h
    exact ⟨e, l, x', h'⟩
theorem Oc.step {r : R RV} (f : FxE C.K C.fa W ρ σ H W1 ρ1 H1) (h : Oc C W ρ σ H Q r) : Oc C W1 ρ1 σ H1 Q r := by
  cases r with
  | ok r ρ' => exact fun W' v H' g q => h W' v H' (f.trans g) (q.base f.dm)
  | ex e ρ' => exact fun c d W' H' g q => h c d W' H' (f.trans g) q
  | bad => exact h
theorem OcG.step {α : Type} {Q : α → Env → Wd → Hp → Prop} {r : R α} (f : FxE C.K C.fa W ρ σ H W1 ρ1 H1) (h : OcG C W ρ σ H Q r) : OcG C W1 ρ1 σ H1 Q r := by
  cases r with
  | ok r ρ' => exact fun W' H' g => h W' H' (f.trans g)
  | ex e ρ' => exact fun c d W' H' g q => h c d W' H' (f.trans g) q
  | bad => exact h
/-- first f, then what follows: any end -/
theorem rd_then {f : Env → R RV} {k : RV → Env → R RV} {Q' : VK} (rs : RS C.K C.fa W ρ σ H) (h : Oc C W ρ σ H Q ((f ρ).bind k))
    (hk : ∀ W1 ρ1 H1 r v, FxE C.K C.fa W ρ σ H W1 ρ1 H1 → RpR C.K C.fa (Ex_ H) W1 ρ1 σ H1 r v → Oc C W1 ρ1 σ H1 Q (k r ρ1) → Q' v H1) : rd C f σ H Q' := by
  refine ⟨W, ρ, rs, ?_⟩
  cases e : f ρ with
  | ok r ρ' =>
    rw [e] at h
    exact fun W' v H' g q => hk W' ρ' H' r v g q (Oc.step g h)
  | ex e' ρ' =>
    rw [e] at h
    exact h
  | bad =>
    rw [e] at h
    exact h
/-- .. where the end is told from the beginning -/
theorem rd_then0 {f : Env → R RV} {k : RV → Env → R RV} {Q' : VK} (rs : RS C.K C.fa W ρ σ H) (h : Oc C W ρ σ H Q ((f ρ).bind k))
    (hk : ∀ W1 ρ1 H1 r v, FxE C.K C.fa W ρ σ H W1 ρ1 H1 → RpR C.K C.fa (Ex_ H) W1 ρ1 σ H1 r v → Oc C W ρ σ H Q (k r ρ1) → Q' v H1) : rd C f σ H Q' := by
  refine ⟨W, ρ, rs, ?_⟩
  cases e : f ρ with
  | ok r ρ' =>
    rw [e] at h
    exact fun W' v H' g q => hk W' ρ' H' r v g q h
  | ex e' ρ' =>
    rw [e] at h
    exact h
  | bad =>
    rw [e] at h
    exact h
theorem rd_thenG {α : Type} {QG : α → Env → Wd → Hp → Prop} {f : Env → R RV} {k : RV → Env → R α} {Q' : VK} (rs : RS C.K C.fa W ρ σ H) (h : OcG C W ρ σ H QG ((f ρ).bind k))
    (hk : ∀ W1 ρ1 H1 r v, FxE C.K C.fa W ρ σ H W1 ρ1 H1 → RpR C.K C.fa (Ex_ H) W1 ρ1 σ H1 r v → OcG C W1 ρ1 σ H1 QG (k r ρ1) → Q' v H1) : rd C f σ H Q' := by
  refine ⟨W, ρ, rs, ?_⟩
  cases e : f ρ with
  | ok r ρ' =>
    rw [e] at h
    exact fun W' v H' g q => hk W' ρ' H' r v g q (OcG.step g h)
  | ex e' ρ' =>
    rw [e] at h
    exact h
  | bad =>
    rw [e] at h
    exact h
theorem rdT_then {f : Env → R Bool} {k : Bool → Env → R RV} {Q' : Bool → Hp → Prop} (rs : RS C.K C.fa W ρ σ H) (h : Oc C W ρ σ H Q ((f ρ).bind k))
    (hk : ∀ W1 ρ1 H1 b, FxE C.K C.fa W ρ σ H W1 ρ1 H1 → Oc C W1 ρ1 σ H1 Q (k b ρ1) → Q' b H1) : rdT C f σ H Q' := by
  refine ⟨W, ρ, rs, ?_⟩
  cases e : f ρ with
  | ok r ρ' =>
    rw [e] at h
    exact fun W' H' g => hk W' ρ' H' r g (Oc.step g h)
  | ex e' ρ' =>
    rw [e] at h
    exact h
  | bad =>
    rw [e] at h
    exact h
theorem rdT_thenG {α : Type} {QG : α → Env → Wd → Hp → Prop} {f : Env → R Bool} {k : Bool → Env → R α} {Q' : Bool → Hp → Prop} (rs : RS C.K C.fa W ρ σ H) (h : OcG C W ρ σ H QG ((f ρ).bind k))
    (hk : ∀ W1 ρ1 H1 b, FxE C.K C.fa W ρ σ H W1 ρ1 H1 → OcG C W1 ρ1 σ H1 QG (k b ρ1) → Q' b H1) : rdT C f σ H Q' := by
  refine ⟨W, ρ, rs, ?_⟩
  cases e : f ρ with
  | ok r ρ' =>
    rw [e] at h
    exact fun W' H' g => hk W' ρ' H' r g (OcG.step g h)
  | ex e' ρ' =>
    rw [e] at h
    exact h
  | bad =>
    rw [e] at h
    exact h
theorem Oc.rd {f : Env → R RV} (rs : RS C.K C.fa W ρ σ H) (h : Oc C W ρ σ H Q (f ρ)) : Mp.rd C f σ H Q := ⟨W, ρ, rs, h⟩
theorem OcG.rdT {f : Env → R Bool} {Q : Bool → Hp → Prop} (rs : RS C.K C.fa W ρ σ H) (h : OcG C W ρ σ H (fun b _ _ H' => Q b H') (f ρ)) : Mp.rdT C f σ H Q := ⟨W, ρ, rs, h⟩

/-! ### operands and results -/
theorem RpR.ro {r : RV} {x : P} (rs : RS K fa W ρ σ H) (h : RpR K fa W0 W ρ σ H r v) (e : derefP ρ r = some x) : Ro K W H x v := by
  unfold derefP at e
  cases r with
  | sh y =>
    cases y with
    | d y => cases e; exact .inl h
    | _ => cases e
  | fr y =>
    obtain ⟨a, e1, w, n, o, r⟩ := h
    cases y with
    | d y =>
      cases e
      cases x with
      | list ds =>
        obtain ⟨xs, h1, h2, h3⟩ := r
        exact .inr ⟨a, xs, ds, rfl, e1, h1, h2, h3⟩
      | _ => exact r.elim
    | _ => cases e
  | br j =>
    obtain ⟨e1, l, y, h⟩ := h
    simp only [deref, h] at e
    cases y with
    | d y =>
      cases e
      obtain ⟨a, e2, w, r⟩ := rs.own j l _ h
      rw [e1] at e2
      cases e2
      cases x with
      | list ds =>
        obtain ⟨xs, h1, h2, h3⟩ := r
        exact .inr ⟨a, xs, ds, rfl, rfl, h1, h2, h3⟩
      | _ => exact r.elim
    | _ => cases e
theorem RS.ex (rs : RS K fa W ρ σ H) (a : Addr) (w : W a) : Ex_ H a := by
  obtain ⟨o, e, _⟩ := rs.dom a w
  show H a ≠ none
  rw [e]; exact Option.some_ne_none o
theorem Dom.of (rs : RS K fa W ρ σ H) : Dom W H := rs.dom
/-- the end of an operator that gives something that is there -/
theorem Oc.fin {c : P} {H' : Hp} (rs : RS C.K C.fa W ρ σ H) (h : Oc C W ρ σ H Q (.ok (shP c) ρ)) (k : ∀ a o, H a = some o → H' a = some o) (r : Rp C.K W H' c v) : Q v H' :=
  h W v H' (FxE.grow rs k) r
theorem FxE.own {p : Addr} {xs : List V} (rs : RS K fa W ρ σ H) (n : H p = none) : FxE K fa W ρ σ H (fun a => W a ∨ a = p) ρ (upd H p (.lst xs)) := by
  have g := FxE.grow (H' := upd H p (.lst xs)) rs (grow_upd n)
  have s : Stay W H (fun a => W a ∨ a = p) (upd H p (.lst xs)) := ⟨fun a o e _ _ => grow_upd n a o e, fun a z => z.elim .inl fun z => .inr (by rw [z]; exact n), rs.dom⟩
  refine ⟨⟨rs.len, fun i x e => ?_, fun i l x e => ?_, rs.inj, fun a z => ?_, rs.tab.ext (grow_upd n)⟩, g.fr, g.sh, g.hs, fun a z => .inl z, fun a z => z.elim .inl fun z => .inr (by rw [z]; exact n), g.dm⟩
  · obtain ⟨v, e1, r⟩ := rs.val i x e
    exact ⟨v, e1, s.rpD r⟩
  · obtain ⟨a, e1, w, r⟩ := rs.own i l x e
    exact ⟨a, e1, .inl w, s.rpO r fun o _ => grow_upd n a o⟩
  · rcases z with z | z
    · obtain ⟨o, e, m⟩ := rs.dom a z
      exact ⟨o, grow_upd n a o e, m⟩
    · subst z
      exact ⟨_, upd_same, trivial⟩
theorem Ow.not {a : Addr} (rs : RS K fa W ρ σ H) (n : H a = none) : ¬ Ow ρ σ a := fun z => rs.notW n (rs.owW z)
/-- .. or a new list -/
theorem Oc.finN {c : P} {H' : Hp} (rs : RS C.K C.fa W ρ σ H) (h : Oc C W ρ σ H Q (.ok (newP c) ρ)) (r : Rn C.K W H H' c v) : Q v H' := by
  cases c with
  | list ds =>
    obtain ⟨p, xs, e, n, e2, hz, ra⟩ := r
    subst e e2
    have f := FxE.own (xs := xs) rs n
    refine h _ _ _ f ⟨p, rfl, .inr rfl, fun z => z n, Ow.not rs n, xs, upd_same, hz, ?_⟩
    exact Stay.rpA ⟨fun a o e _ _ => grow_upd n a o e, f.wg, rs.dom⟩ ra
  | none => exact Oc.fin rs h r.1 r.2
  | bool b => exact Oc.fin rs h r.1 r.2
  | int b => exact Oc.fin rs h r.1 r.2
  | str b => exact Oc.fin rs h r.1 r.2
  | tuple b => exact Oc.fin rs h r.1 r.2
  | dict b => exact Oc.fin rs h r.1 r.2
theorem PE.mono {X : Cx} {e : Expr} {t t' : TE} (h : PE X e t) (hi : ∀ σ H Q, t' σ H Q → t σ H Q) : PE X e t' := ⟨fun pins s σ H Q I q => h.run pins s σ H Q I (hi _ _ _ q)⟩
theorem PT.mono {X : Cx} {e : Expr} {t t' : TT} (h : PT X e t) (hi : ∀ σ H Q, t' σ H Q → t σ H Q) : PT X e t' := ⟨fun pins s σ H Q I q => h.run pins s σ H Q I (hi _ _ _ q)⟩
theorem PW.mono {X : Cx} {e : Expr} {t t' : TT} (h : PW X e t) (hi : ∀ σ H Q, t' σ H Q → t σ H Q) : PW X e t' := ⟨fun w pins s σ H Q I q => h.run w pins s σ H Q I (hi _ _ _ q)⟩
theorem PA.mono {X : Cx} {e : List Expr} {t t' : TA} (h : PA X e t) (hi : ∀ σ H Q, t' σ H Q → t σ H Q) : PA X e t' := ⟨fun p pins s σ H Q I q => h.run p pins s σ H Q I (hi _ _ _ q)⟩
theorem PO.mono {X : Cx} {e : Option Expr} {t t' : TO} (h : PO X e t) (hi : ∀ σ H Q, t' σ H Q → t σ H Q) : PO X e t' := ⟨fun pins s σ H Q I q => h.run pins s σ H Q I (hi _ _ _ q)⟩
end
end Mp

set_option maxRecDepth 100000
set_option maxHeartbeats 4000000
/-! Mp5: expressions. -/
namespace Mp
open PySem PySem.Spec PyProof.Rows L2

abbrev cx (X : Cx) (fa : FT) (ca : FA) (Wx : WX) : Ctx := ⟨X.K, fa, ca, Wx⟩

section
variable {C : Ctx} {W W0 W0' : Wd} {ρ : Env} {σ : L2.St} {H : Hp} {Q : VK} {v u : V}
theorem bi2_fin {f : P → P → Option P} {r s : RV} (rs : RS C.K C.fa W ρ σ H) (h : Oc C W ρ σ H Q (bi2 true f r s ρ)) (qr : RpR C.K C.fa W0 W ρ σ H r v) (qs : RpR C.K C.fa W0' W ρ σ H s u) : rOp2 C.K f v u H Q := by
  unfold bi2 at h
  cases e1 : derefP ρ r with
  | none => rw [e1] at h; exact h.elim
  | some x =>
    cases e2 : derefP ρ s with
    | none => rw [e1, e2] at h; exact h.elim
    | some y =>
      rw [e1, e2] at h
      simp only at h
      cases e3 : f x y with
      | none => rw [e3] at h; exact h.elim
      | some z =>
        rw [e3] at h
        exact ⟨W, x, y, z, rs.dom, qr.ro rs e1, qs.ro rs e2, e3, fun v H' n => Oc.finN rs h n⟩
theorem bi2s_fin {f : P → P → Option P} {r s : RV} (rs : RS C.K C.fa W ρ σ H) (h : Oc C W ρ σ H Q (bi2 false f r s ρ)) (qr : RpR C.K C.fa W0 W ρ σ H r v) (qs : RpR C.K C.fa W0' W ρ σ H s u) : rOp2s C.K f v u H Q := by
  unfold bi2 at h
  cases e1 : derefP ρ r with
  | none => rw [e1] at h; exact h.elim
  | some x =>
    cases e2 : derefP ρ s with
    | none => rw [e1, e2] at h; exact h.elim
    | some y =>
      rw [e1, e2] at h
      simp only at h
      cases e3 : f x y with
      | none => rw [e3] at h; exact h.elim
      | some z =>
        rw [e3] at h
        exact ⟨W, x, y, z, rs.dom, qr.ro rs e1, qs.ro rs e2, e3, fun v H' n => Oc.fin rs h n⟩
theorem cm2_fin {f : P → P → Option Bool} {r s : RV} (rs : RS C.K C.fa W ρ σ H) (h : Oc C W ρ σ H Q (cm2 f r s ρ)) (qr : RpR C.K C.fa W0 W ρ σ H r v) (qs : RpR C.K C.fa W0' W ρ σ H s u) : rCmp C.K f v u H Q := by
  unfold cm2 at h
  cases e1 : derefP ρ r with
  | none => rw [e1] at h; exact h.elim
  | some x =>
    cases e2 : derefP ρ s with
    | none => rw [e1, e2] at h; exact h.elim
    | some y =>
      rw [e1, e2] at h
      simp only at h
      cases e3 : f x y with
      | none => rw [e3] at h; exact h.elim
      | some z =>
        rw [e3] at h
        exact ⟨W, x, y, z, qr.ro rs e1, qs.ro rs e2, e3, Oc.fin rs h (fun _ _ e => e) (.bl z)⟩
theorem un_fin {f : P → Option P} {r : RV} (rs : RS C.K C.fa W ρ σ H) (h : Oc C W ρ σ H Q (un true f r ρ)) (qr : RpR C.K C.fa W0 W ρ σ H r v) : rOp1 C.K f v H Q := by
  unfold un at h
  cases e1 : derefP ρ r with
  | none => rw [e1] at h; exact h.elim
  | some x =>
    rw [e1] at h
    simp only at h
    cases e3 : f x with
    | none => rw [e3] at h; exact h.elim
    | some z =>
      rw [e3] at h
      exact ⟨W, x, z, rs.dom, qr.ro rs e1, e3, fun v H' n => Oc.finN rs h n⟩
theorem uns_fin {f : P → Option P} {r : RV} (rs : RS C.K C.fa W ρ σ H) (h : Oc C W ρ σ H Q (un false f r ρ)) (qr : RpR C.K C.fa W0 W ρ σ H r v) : rOp1s C.K f v H Q := by
  unfold un at h
  cases e1 : derefP ρ r with
  | none => rw [e1] at h; exact h.elim
  | some x =>
    rw [e1] at h
    simp only at h
    cases e3 : f x with
    | none => rw [e3] at h; exact h.elim
    | some z =>
      rw [e3] at h
      exact ⟨W, x, z, rs.dom, qr.ro rs e1, e3, fun v H' n => Oc.fin rs h n⟩
theorem lst_fin {r : RV} (rs : RS C.K C.fa W ρ σ H) (h : Oc C W ρ σ H Q (lstR r ρ)) (qr : RpR C.K C.fa W0 W ρ σ H r v) : rLst C.K [v] H Q := by
  unfold lstR at h
  cases e1 : deref ρ r with
  | none => rw [e1] at h; exact h.elim
  | some x =>
    rw [e1] at h
    cases x with
    | fz xs =>
      have hz : RpD C.K C.fa W H (.fz xs) v := by
        cases r with
        | sh y => cases e1; exact qr
        | fr y => cases e1; obtain ⟨a, _, _, _, _, r⟩ := qr; exact r.elim
        | br j =>
          obtain ⟨e, l, y, hy⟩ := qr
          simp only [deref, hy] at e1
          cases e1
          obtain ⟨a, _, _, r⟩ := rs.own j l _ hy
          exact r.elim
      exact ⟨v, rfl, .inr ⟨W, xs, rs.dom, hz, fun v H' n => Oc.finN (c := .list (xs.map PyData.int)) rs h n⟩⟩
    | d x =>
      simp only at h
      cases e3 : lstP x with
      | none => rw [e3] at h; exact h.elim
      | some z =>
        rw [e3] at h
        exact ⟨v, rfl, .inl ⟨W, x, z, rs.dom, qr.ro rs (by unfold derefP; rw [e1]), e3, fun v H' n => Oc.finN rs h n⟩⟩
    | _ => exact h.elim
/-- a result's truth -/
theorem tru_fin {r : RV} {QB : Bool → Env → Wd → Hp → Prop} (rs : RS C.K C.fa W ρ σ H) (h : OcG C W ρ σ H QB (truR r ρ)) (qr : RpR C.K C.fa W0 W ρ σ H r v) : ∃ k, TruV C.K v H k ∧ truR r ρ = .ok k ρ ∧ QB k ρ W H := by
  unfold truR at h ⊢
  cases e1 : deref ρ r with
  | none => rw [e1] at h; exact h.elim
  | some x =>
    rw [e1] at h
    simp only at h
    cases e3 : truD x with
    | none => rw [e3] at h; exact h.elim
    | some z =>
      rw [e3] at h
      refine ⟨z, ?_, by simp only [e3], h W H (FxE.refl rs)⟩
      cases x with
      | d x =>
        cases e3
        exact truP_ok (qr.ro rs (by unfold derefP; rw [e1]))
      | _ => cases e3
end

section
variable {X : Cx} {fa : FT} {ca : FA} {Wx : WX} {a b c : Expr} {pos : Pos} {ta tb tc : Env → R RV}
theorem ex_bin (op : BOp) (ha : PE X a (rd (cx X fa ca Wx) ta)) (hb : PE X b (rd (cx X fa ca Wx) tb)) : PE X (.BinOp a op.op b pos) (rd (cx X fa ca Wx) fun ρ => (ta ρ).bind fun r ρ1 => (tb ρ1).bind fun s ρ2 => bi2 true op.f r s ρ2) := by
  refine PE.mono (pe_op (opD op) ha hb) fun σ H Q ⟨W, ρ, rs, h⟩ => ?_
  exact rd_then rs h fun W1 ρ1 H1 r v f1 q1 h1 => rd_then f1.rs h1 fun W2 ρ2 H2 s u f2 q2 h2 => bi2_fin f2.rs h2 (q1.pers f1.rs f2) q2
theorem ex_cmp (hu : Un X) (op : COp) (ha : PE X a (rd (cx X fa ca Wx) ta)) (hb : PE X b (rd (cx X fa ca Wx) tb)) (hm : behindInMarks op.op b = false) : PE X (.Compare a [op.op] [b] pos) (rd (cx X fa ca Wx) fun ρ => (ta ρ).bind fun r ρ1 => (tb ρ1).bind fun s ρ2 => cm2 op.f r s ρ2) := by
  refine PE.mono (pe_cmpR (opC hu op) ha hb hm) fun σ H Q ⟨W, ρ, rs, h⟩ => ?_
  exact rd_then rs h fun W1 ρ1 H1 r v f1 q1 h1 => rd_then f1.rs h1 fun W2 ρ2 H2 s u f2 q2 h2 => cm2_fin f2.rs h2 (q1.pers f1.rs f2) q2
theorem ex_neg (ha : PE X a (rd (cx X fa ca Wx) ta)) : PE X (.UnaryOp .USub a pos) (rd (cx X fa ca Wx) fun ρ => (ta ρ).bind fun r ρ1 => un false negP r ρ1) := by
  refine PE.mono (pe_un unD_neg ha) fun σ H Q ⟨W, ρ, rs, h⟩ => ?_
  exact rd_then rs h fun W1 ρ1 H1 r v f1 q1 h1 => uns_fin f1.rs h1 q1
theorem ex_ix (ha : PE X a (rd (cx X fa ca Wx) ta)) (hb : PE X b (rd (cx X fa ca Wx) tb)) (hs : PlainIx b) : PE X (.Subscript a b pos) (rd (cx X fa ca Wx) fun ρ => (ta ρ).bind fun r ρ1 => (tb ρ1).bind fun s ρ2 => bi2 false ixP r s ρ2) := by
  refine PE.mono (pe_ix ixD ha hb hs) fun σ H Q ⟨W, ρ, rs, h⟩ => ?_
  exact rd_then rs h fun W1 ρ1 H1 r v f1 q1 h1 => rd_then f1.rs h1 fun W2 ρ2 H2 s u f2 q2 h2 => bi2s_fin f2.rs h2 (q1.pers f1.rs f2) q2
theorem ex_rev {k : Nat} {p1 p2 p3 : Pos} (ha : PE X a (rd (cx X fa ca Wx) ta)) : PE X (.Subscript a (.Slice none none (some (.UnaryOp .USub (.Constant (.int 1) k p1) p2)) p3) pos) (rd (cx X fa ca Wx) fun ρ => (ta ρ).bind fun r ρ1 => un true revP r ρ1) := by
  refine PE.mono (pe_rev ha) fun σ H Q ⟨W, ρ, rs, h⟩ => ?_
  exact rd_then rs h fun W1 ρ1 H1 r v f1 q1 h1 => un_fin f1.rs h1 q1
theorem ex_ife {tt : Env → R Bool} (ht : PT X c (rdT (cx X fa ca Wx) tt)) (ha : PE X a (rd (cx X fa ca Wx) ta)) (hb : PE X b (rd (cx X fa ca Wx) tb)) : PE X (.IfExp c a b pos) (rd (cx X fa ca Wx) fun ρ => (tt ρ).bind fun c ρ1 => if c then ta ρ1 else tb ρ1) := by
  refine PE.mono (pe_ifExp ht ha hb) fun σ H Q ⟨W, ρ, rs, h⟩ => ?_
  refine rdT_then rs h fun W1 ρ1 H1 b f1 h1 => ?_
  cases b with
  | true => exact Oc.rd f1.rs h1
  | false => exact Oc.rd f1.rs h1
theorem ex_const_none {k} : PE X (.Constant .none k pos) (rd (cx X fa ca Wx) fun ρ => .ok (shP .none) ρ) :=
  PE.mono pe_non fun σ H Q ⟨W, ρ, rs, h⟩ => Oc.fin rs h (fun _ _ e => e) .non
theorem ex_const_bool {k} (b : Bool) : PE X (.Constant (.bool b) k pos) (rd (cx X fa ca Wx) fun ρ => .ok (shP (.bool b)) ρ) :=
  PE.mono pe_bl fun σ H Q ⟨W, ρ, rs, h⟩ => Oc.fin rs h (fun _ _ e => e) (.bl b)
theorem ex_const_int {k} (b : Int) : PE X (.Constant (.int b) k pos) (rd (cx X fa ca Wx) fun ρ => .ok (shP (.int b)) ρ) :=
  PE.mono pe_int fun σ H Q ⟨W, ρ, rs, h⟩ => Oc.fin rs h (fun _ _ e => e) (.int b)
theorem ex_const_str {k} (b : Str) (h1 : PyData.strOk b = true) (h2 : b.length ≤ 16777216) : PE X (.Constant (.str b) k pos) (rd (cx X fa ca Wx) fun ρ => .ok (shP (.str b)) ρ) :=
  PE.mono pe_str fun σ H Q ⟨W, ρ, rs, h⟩ => Oc.fin rs h (fun _ _ e => e) (.str b h1 (line_le h2))
theorem ex_var (i : Nat) {x : Str} (hN : X.N[i]? = some x) (hv : Vis X.env.scope x) (hd : (x == ("__debug__" : Str)) = false) (hcd : (x == ("__classdict__" : Str)) = false) : PE X (.Name x pos) (rd (cx X fa ca Wx) (varE i)) := by
  refine PE.mono (pe_var hN hv hd hcd) fun σ H Q ⟨W, ρ, rs, h⟩ => ?_
  unfold varE at h
  cases e : ρ[i]? with
  | none => rw [e] at h; exact h.elim
  | some s =>
    rw [e] at h
    cases s with
    | un => exact h.elim
    | val y =>
      obtain ⟨v, e1, r⟩ := rs.val i y e
      exact ⟨v, e1, h W v H (FxE.refl rs) r⟩
    | own l y =>
      obtain ⟨a, e1, w, r⟩ := rs.own i l y e
      exact ⟨.ref a, e1, h W _ H (FxE.refl rs) ⟨e1, l, y, e⟩⟩
/-! truth -/
theorem et_of_val (he : ∀ whole, isTrue a X.env whole = (do let v ← whole; standAt a.pos; holding [v] (truthy v))) (ha : PE X a (rd (cx X fa ca Wx) ta)) : PT X a (rdT (cx X fa ca Wx) fun ρ => (ta ρ).bind truR) := by
  refine PT.mono (pt_truth ha he) fun σ H Q ⟨W, ρ, rs, h⟩ => ?_
  refine rd_thenG rs h fun W1 ρ1 H1 r v f1 q1 h1 => ?_
  obtain ⟨k, t, _, q⟩ := tru_fin f1.rs h1 q1
  exact ⟨k, t, q⟩
theorem et_cmp (hu : Un X) (op : COp) (ha : PE X a (rd (cx X fa ca Wx) ta)) (hb : PE X b (rd (cx X fa ca Wx) tb)) (hm : behindInMarks op.op b = false) : PT X (.Compare a [op.op] [b] pos) (rdT (cx X fa ca Wx) fun ρ => ((ta ρ).bind fun r ρ1 => (tb ρ1).bind fun s ρ2 => cm2 op.f r s ρ2).bind truR) := by
  refine PT.mono (pt_cmpR (opC hu op) ha hb hm) fun σ H Q ⟨W, ρ, rs, h⟩ => ?_
  have e : ((ta ρ).bind fun r ρ1 => (tb ρ1).bind fun s ρ2 => cm2 op.f r s ρ2).bind truR = (ta ρ).bind fun r ρ1 => (tb ρ1).bind fun s ρ2 => (cm2 op.f r s ρ2).bind truR := by
    cases ta ρ with
    | ok r ρ1 => simp only [R.bind]; cases tb ρ1 <;> rfl
    | _ => rfl
  have h : OcG (cx X fa ca Wx) W ρ σ H (fun b _ _ H' => Q b H') (((ta ρ).bind fun r ρ1 => (tb ρ1).bind fun s ρ2 => cm2 op.f r s ρ2).bind truR) := h
  rw [e] at h
  refine rd_thenG rs h fun W1 ρ1 H1 r v f1 q1 h1 => rd_thenG f1.rs h1 fun W2 ρ2 H2 s u f2 q2 h2 => ?_
  have q1' := q1.pers f1.rs f2
  unfold cm2 at h2
  cases e1 : derefP ρ2 r with
  | none => rw [e1] at h2; exact h2.elim
  | some x =>
    cases e2 : derefP ρ2 s with
    | none => rw [e1, e2] at h2; exact h2.elim
    | some y =>
      rw [e1, e2] at h2
      simp only at h2
      cases e3 : op.f x y with
      | none => rw [e3] at h2; exact h2.elim
      | some z =>
        rw [e3] at h2
        refine ⟨W2, x, y, z, q1'.ro f2.rs e1, q2.ro f2.rs e2, e3, z, rfl, ?_⟩
        exact h2 W2 H2 (FxE.refl f2.rs)
theorem et_not {tt : Env → R Bool} (ht : PT X a (rdT (cx X fa ca Wx) tt)) : PT X (.UnaryOp .Not a pos) (rdT (cx X fa ca Wx) fun ρ => (tt ρ).bind fun b ρ1 => .ok (!b) ρ1) := by
  refine PT.mono (pt_not ht) fun σ H Q ⟨W, ρ, rs, h⟩ => ?_
  refine rdT_thenG rs h fun W1 ρ1 H1 b f1 h1 => ?_
  exact h1 W1 H1 (FxE.refl f1.rs)
theorem ex_not (ha : PE X a (rd (cx X fa ca Wx) ta)) : PE X (.UnaryOp .Not a pos) (rd (cx X fa ca Wx) fun ρ => ((ta ρ).bind truR).bind fun b ρ1 => .ok (shP (.bool (!b))) ρ1) := by
  refine PE.mono (pe_notT ha) fun σ H Q ⟨W, ρ, rs, h⟩ => ?_
  have h : Oc (cx X fa ca Wx) W ρ σ H Q (((ta ρ).bind truR).bind fun b ρ1 => .ok (shP (.bool (!b))) ρ1) := h
  have e : ((ta ρ).bind truR).bind (fun b ρ1 => (R.ok (shP (.bool (!b))) ρ1 : R RV)) = (ta ρ).bind fun r ρ1 => (truR r ρ1).bind fun b ρ1 => .ok (shP (.bool (!b))) ρ1 := by
    cases ta ρ <;> rfl
  rw [e] at h
  refine rd_then rs h fun W1 ρ1 H1 r v f1 q1 h1 => ?_
  cases e1 : truR r ρ1 with
  | ok k ρ2 =>
    rw [e1] at h1
    obtain ⟨k', t, e2, _⟩ := tru_fin (QB := fun _ _ _ _ => True) f1.rs (by rw [e1]; exact fun _ _ _ => trivial) q1
    rw [e1] at e2
    cases e2
    exact ⟨k, t, Oc.fin f1.rs h1 (fun _ _ e => e) (.bl _)⟩
  | ex e ρ2 =>
    unfold truR at e1
    cases e2 : deref ρ1 r with
    | none => rw [e2] at e1; cases e1
    | some x =>
      rw [e2] at e1
      simp only at e1
      cases e3 : truD x with
      | none => rw [e3] at e1; cases e1
      | some z => rw [e3] at e1; cases e1
  | bad => rw [e1] at h1; exact h1.elim
end
end Mp

set_option maxRecDepth 100000
set_option maxHeartbeats 4000000
/-! Mp6: and, or, chains, displays, arguments, calls of built-ins. -/
namespace Mp
open PySem PySem.Spec PyProof.Rows L2

/-- no star, no slice, no set -/
def plainE : Expr → Bool
  | .Starred .. => false
  | .Slice .. => false
  | .Set .. => false
  | _ => true
theorem plain_star {e : Expr} (h : plainE e = true) (es : List Expr) (env : PySem.Env) : starEach (e :: es) env = (false, eval e env) :: starEach es env := by
  cases e <;> first | rfl | cases h
theorem plain_ix {e : Expr} (h : plainE e = true) : PlainIx e := by
  cases e <;> first | exact fun _ _ => rfl | cases h
theorem plain_mark {e : Expr} (h : plainE e = true) (op : CmpOp) : behindInMarks op e = false := by
  cases e <;> first | rfl | cases h
theorem plain_fold {e : Expr} (h : plainE e = true) (env : PySem.Env) (x : Value) : foldedSetIterable e env x = pure x := by
  cases e <;> first | rfl | cases h

structure Der (X : Cx) (fa : FT) (ca : FA) (Wx : WX) (e : Expr) (p : Pr) : Prop where
  v : PE X e (rd (cx X fa ca Wx) p.v)
  t : PT X e (rdT (cx X fa ca Wx) p.t)
  co : ∀ ρ, p.t ρ = (p.v ρ).bind truR
  sy : plainE e = true

theorem bind_assoc {α β γ : Type} (x : R α) (f : α → Env → R β) (g : β → Env → R γ) : (x.bind f).bind g = x.bind fun a ρ => (f a ρ).bind g := by
  cases x <;> rfl
theorem truR_twice (r : RV) (ρ : Env) (b : Bool) (ρ' : Env) (h : truR r ρ = .ok b ρ') : ρ' = ρ := by
  unfold truR at h
  cases e2 : deref ρ r with
  | none => rw [e2] at h; cases h
  | some x =>
    rw [e2] at h
    simp only at h
    cases e3 : truD x with
    | none => rw [e3] at h; cases h
    | some z => rw [e3] at h; cases h; rfl
theorem truR_noex (r : RV) (ρ : Env) (e : Ex) (ρ' : Env) : truR r ρ ≠ .ex e ρ' := by
  intro h
  unfold truR at h
  cases e2 : deref ρ r with
  | none => rw [e2] at h; cases h
  | some x =>
    rw [e2] at h
    simp only at h
    cases e3 : truD x with
    | none => rw [e3] at h; cases h
    | some z => rw [e3] at h; cases h
theorem truR_shP (b : Bool) (ρ : Env) : truR (shP (.bool b)) ρ = .ok b ρ := rfl

section
variable {X : Cx} {fa : FT} {ca : FA} {Wx : WX} {a b c : Expr} {pos : Pos}
/-! ### and, or -/
theorem co_bop (isOr : Bool) : ∀ (es : List Expr) (ps : List Pr), Paired (Der X fa ca Wx) es ps → ∀ ρ, etB isOr ps ρ = (evB isOr ps ρ).bind truR
  | _, [], _, ρ => rfl
  | _, [p], .cons d .nil, ρ => d.co ρ
  | _, p :: q :: ps, .cons d ds, ρ => by
    have ih := co_bop isOr _ (q :: ps) ds
    show (p.t ρ).bind (fun b ρ1 => if b == isOr then .ok b ρ1 else etB isOr (q :: ps) ρ1) = (((p.v ρ).bind fun r ρ1 => (truR r ρ1).bind fun b ρ2 => if b == isOr then .ok r ρ2 else evB isOr (q :: ps) ρ2)).bind truR
    rw [d.co ρ, bind_assoc, bind_assoc]
    cases p.v ρ with
    | ok r ρ1 =>
      simp only [R.bind]
      cases e : truR r ρ1 with
      | ok b ρ2 =>
        have := truR_twice r ρ1 b ρ2 e
        subst this
        simp only
        by_cases hb : (b == isOr) = true
        · rw [if_pos hb, if_pos hb]
          simp only
          rw [e]
        · rw [if_neg hb, if_neg hb]
          exact ih ρ2
      | ex => rfl
      | bad => rfl
    | ex => rfl
    | bad => rfl
def bopE (isOr : Bool) : BoolOp := if isOr then .Or else .And
theorem ex_bop (isOr : Bool) : ∀ (es : List Expr) (ps : List Pr), es ≠ [] → Paired (Der X fa ca Wx) es ps → PE X (.BoolOp (bopE isOr) es pos) (rd (cx X fa ca Wx) (evB isOr ps))
  | _, _, h, .nil => absurd rfl h
  | [e], [p], _, .cons d .nil => pe_one d.v
  | e :: e' :: es, p :: q :: ps, _, .cons d ds => by
    have ih := ex_bop isOr (e' :: es) (q :: ps) (by simp) ds
    have go : ∀ {Q : VK} {W : Wd} {ρ : Env} {σ : L2.St} {H : Hp} {W1 ρ1 H1 r v}, FxE X.K fa W ρ σ H W1 ρ1 H1 → RpR X.K fa (Ex_ H) W1 ρ1 σ H1 r v →
        Oc (cx X fa ca Wx) W ρ σ H Q ((truR r ρ1).bind fun b ρ2 => if b == isOr then .ok r ρ2 else evB isOr (q :: ps) ρ2) →
        ∃ k, TruV X.K v H1 k ∧ (if k == isOr then Q v H1 else rd (cx X fa ca Wx) (evB isOr (q :: ps)) σ H1 Q) := by
      intro Q W ρ σ H W1 ρ1 H1 r v f1 q1 h1
      cases e1 : truR r ρ1 with
      | ok k ρ2 =>
        rw [e1] at h1
        obtain ⟨k', t, e2, _⟩ := tru_fin (C := cx X fa ca Wx) (QB := fun _ _ _ _ => True) f1.rs (by rw [e1]; exact fun _ _ _ => trivial) q1
        rw [e1] at e2
        cases e2
        refine ⟨k, t, ?_⟩
        have h1 : Oc (cx X fa ca Wx) W ρ σ H Q (if k == isOr then .ok r ρ1 else evB isOr (q :: ps) ρ1) := h1
        by_cases hb : (k == isOr) = true
        · rw [if_pos hb] at h1 ⊢
          exact h1 W1 v H1 f1 q1
        · rw [if_neg hb] at h1 ⊢
          exact Oc.rd f1.rs (h1.step f1)
      | ex e ρ2 => exact absurd e1 (truR_noex _ _ _ _)
      | bad => rw [e1] at h1; exact h1.elim
    cases isOr with
    | true =>
      refine PE.mono (pe_orT d.v ih) fun σ H Q ⟨W, ρ, rs, h⟩ => ?_
      refine rd_then0 rs h fun W1 ρ1 H1 r v f1 q1 h1 => ?_
      obtain ⟨k, t, q⟩ := go f1 q1 h1
      refine ⟨k, t, ?_⟩
      cases k with
      | true => exact q
      | false => exact q
    | false =>
      refine PE.mono (pe_andT d.v ih) fun σ H Q ⟨W, ρ, rs, h⟩ => ?_
      refine rd_then0 rs h fun W1 ρ1 H1 r v f1 q1 h1 => ?_
      obtain ⟨k, t, q⟩ := go f1 q1 h1
      refine ⟨k, t, ?_⟩
      cases k with
      | true => exact q
      | false => exact q
theorem pw_bop (isOr : Bool) : ∀ (es : List Expr) (ps : List Pr), es ≠ [] → Paired (Der X fa ca Wx) es ps → PW X (.BoolOp (bopE isOr) es pos) (rdT (cx X fa ca Wx) (etB isOr ps))
  | _, _, h, .nil => absurd rfl h
  | [e], [p], _, .cons d .nil => by
    cases isOr with
    | true => exact pw_or1 d.t
    | false => exact pw_and1 d.t
  | e :: e' :: es, p :: q :: ps, _, .cons d ds => by
    have ih := pw_bop isOr (e' :: es) (q :: ps) (by simp) ds
    cases isOr with
    | true =>
      refine PW.mono (pw_or d.t ih) fun σ H Q ⟨W, ρ, rs, h⟩ => ?_
      refine rdT_thenG rs h fun W1 ρ1 H1 b f1 h1 => ?_
      cases b with
      | true => exact h1 W1 H1 (FxE.refl f1.rs)
      | false => exact OcG.rdT f1.rs h1
    | false =>
      refine PW.mono (pw_and d.t ih) fun σ H Q ⟨W, ρ, rs, h⟩ => ?_
      refine rdT_thenG rs h fun W1 ρ1 H1 b f1 h1 => ?_
      cases b with
      | true => exact OcG.rdT f1.rs h1
      | false => exact h1 W1 H1 (FxE.refl f1.rs)
theorem der_bop (isOr : Bool) {es : List Expr} {ps : List Pr} (hn : es ≠ []) (h : Paired (Der X fa ca Wx) es ps) : Der X fa ca Wx (.BoolOp (bopE isOr) es pos) ⟨evB isOr ps, etB isOr ps⟩ :=
  ⟨ex_bop isOr es ps hn h, (pw_bop isOr es ps hn h).pt, co_bop isOr es ps h, rfl⟩

/-! ### chains -/
theorem ex_chain (hu : Un X) (op op' : COp) {ta tb tc : Env → R RV} (ha : PE X a (rd (cx X fa ca Wx) ta)) (hb : PE X b (rd (cx X fa ca Wx) tb)) (hc : PE X c (rd (cx X fa ca Wx) tc)) (hm : plainE c = true) :
    PE X (.Compare a [op.op, op'.op] [b, c] pos) (rd (cx X fa ca Wx) (chainE op op' ta tb tc)) := by
  refine PE.mono (pe_chain (opC hu op) (opC hu op') ha hb hc (plain_mark hm _)) fun σ H Q ⟨W, ρ, rs, h⟩ => ?_
  refine rd_then rs h fun W1 ρ1 H1 r v f1 q1 h1 => rd_then f1.rs h1 fun W2 ρ2 H2 s u f2 q2 h2 => ?_
  have q1' := q1.pers f1.rs f2
  unfold cm2 at h2
  cases e1 : derefP ρ2 r with
  | none => rw [e1] at h2; exact h2.elim
  | some x =>
    cases e2 : derefP ρ2 s with
    | none => rw [e1, e2] at h2; exact h2.elim
    | some y =>
      rw [e1, e2] at h2
      simp only at h2
      cases e3 : op.f x y with
      | none => rw [e3] at h2; exact h2.elim
      | some z =>
        rw [e3] at h2
        refine ⟨W2, x, y, z, q1'.ro f2.rs e1, q2.ro f2.rs e2, e3, z, rfl, ?_⟩
        have h2 : Oc (cx X fa ca Wx) W2 ρ2 σ H2 Q (if z = true then (tc ρ2).bind fun u ρ5 => cm2 op'.f s u ρ5 else .ok (shP (.bool false)) ρ2) := h2
        cases z with
        | true =>
          rw [if_pos rfl] at h2 ⊢
          exact rd_then f2.rs h2 fun W3 ρ3 H3 t w f3 q3 h3 => cm2_fin f3.rs h3 (q2.pers f2.rs f3) q3
        | false =>
          rw [if_neg Bool.false_ne_true] at h2 ⊢
          exact Oc.fin f2.rs h2 (fun _ _ e => e) (.bl _)
theorem et_chain (hu : Un X) (op op' : COp) {ta tb tc : Env → R RV} (ha : PE X a (rd (cx X fa ca Wx) ta)) (hb : PE X b (rd (cx X fa ca Wx) tb)) (hc : PE X c (rd (cx X fa ca Wx) tc)) (hm : plainE c = true) :
    PT X (.Compare a [op.op, op'.op] [b, c] pos) (rdT (cx X fa ca Wx) fun ρ => (chainE op op' ta tb tc ρ).bind truR) := by
  refine PT.mono (pt_chain (opC hu op) (opC hu op') ha hb hc (plain_mark hm _)) fun σ H Q ⟨W, ρ, rs, h⟩ => ?_
  have h : OcG (cx X fa ca Wx) W ρ σ H (fun b _ _ H' => Q b H') ((chainE op op' ta tb tc ρ).bind truR) := h
  unfold chainE at h
  rw [bind_assoc] at h
  refine rd_thenG rs h fun W1 ρ1 H1 r v f1 q1 h1 => ?_
  rw [bind_assoc] at h1
  refine rd_thenG f1.rs h1 fun W2 ρ2 H2 s u f2 q2 h2 => ?_
  have q1' := q1.pers f1.rs f2
  unfold cm2 at h2
  cases e1 : derefP ρ2 r with
  | none => rw [e1] at h2; exact h2.elim
  | some x =>
    cases e2 : derefP ρ2 s with
    | none => rw [e1, e2] at h2; exact h2.elim
    | some y =>
      rw [e1, e2] at h2
      simp only at h2
      cases e3 : op.f x y with
      | none => rw [e3] at h2; exact h2.elim
      | some z =>
        rw [e3] at h2
        refine ⟨W2, x, y, z, q1'.ro f2.rs e1, q2.ro f2.rs e2, e3, z, rfl, ?_⟩
        have h2 : OcG (cx X fa ca Wx) W2 ρ2 σ H2 (fun b _ _ H' => Q b H') ((if z = true then (tc ρ2).bind fun u ρ5 => cm2 op'.f s u ρ5 else .ok (shP (.bool false)) ρ2).bind truR) := h2
        cases z with
        | true =>
          rw [if_pos rfl] at h2 ⊢
          rw [bind_assoc] at h2
          refine rd_thenG f2.rs h2 fun W3 ρ3 H3 t w f3 q3 h3 => ?_
          have q2' := q2.pers f2.rs f3
          unfold cm2 at h3
          cases e1 : derefP ρ3 s with
          | none => rw [e1] at h3; exact h3.elim
          | some x =>
            cases e2 : derefP ρ3 t with
            | none => rw [e1, e2] at h3; exact h3.elim
            | some y =>
              rw [e1, e2] at h3
              simp only at h3
              cases e3 : op'.f x y with
              | none => rw [e3] at h3; exact h3.elim
              | some z =>
                rw [e3] at h3
                exact ⟨W3, x, y, z, q2'.ro f3.rs e1, q3.ro f3.rs e2, e3, z, rfl, h3 W3 H3 (FxE.refl f3.rs)⟩
        | false =>
          rw [if_neg Bool.false_ne_true] at h2 ⊢
          exact ⟨false, rfl, h2 W2 H2 (FxE.refl f2.rs)⟩

/-! ### lists of expressions -/
/-- where the fresh ones stand -/
def frV : List RV → List V → List V
  | .fr _ :: rs, v :: vs => v :: frV rs vs
  | _ :: rs, _ :: vs => frV rs vs
  | _, _ => []
inductive RpRs (K : PySem.W.Frag) (fa : FT) (W0 W : Wd) (ρ : Env) (σ : L2.St) (H : Hp) : List RV → List V → Prop
  | nil : RpRs K fa W0 W ρ σ H [] []
  | cons {r v rs vs} : RpR K fa W0 W ρ σ H r v → (∀ x, r = .fr x → v ∉ frV rs vs) → RpRs K fa W0 W ρ σ H rs vs → RpRs K fa W0 W ρ σ H (r :: rs) (v :: vs)
def OcA (C : Ctx) (W : Wd) (ρ : Env) (σ : L2.St) (H : Hp) (Q : List RV → Env → Wd → List V → Hp → Prop) : R (List RV) → Prop
  | .ok r ρ' => ∀ W' v H', FxE C.K C.fa W ρ σ H W' ρ' H' → RpRs C.K C.fa (Ex_ H) W' ρ' σ H' r v → Q r ρ' W' v H'
  | .ex e ρ' => ∀ c d W' H', FxE C.K C.fa W ρ σ H W' ρ' H' → RpX C.ca e c d H' → C.Wx c d σ H'
  | .bad => False
def rdA (C : Ctx) (f : Env → R (List RV)) : TA := fun σ H Q => ∃ W ρ, RS C.K C.fa W ρ σ H ∧ OcA C W ρ σ H (fun _ _ _ v H' => Q v H') (f ρ)
theorem RpRs.base {K : PySem.W.Frag} {W0 W1 W : Wd} {ρ : Env} {σ : L2.St} {H : Hp} {rs : List RV} {vs : List V} (m : ∀ a, W0 a → W1 a) (h : RpRs K fa W1 W ρ σ H rs vs) : RpRs K fa W0 W ρ σ H rs vs := by
  induction h with
  | nil => exact .nil
  | cons h d _ ih => exact .cons (h.base m) d ih
theorem RpRs.pers {K : PySem.W.Frag} {W0 W1 W2 : Wd} {ρ1 ρ2 : Env} {σ : L2.St} {H1 H2 : Hp} {rs : List RV} {vs : List V} (r : RS K fa W1 ρ1 σ H1) (f : FxE K fa W1 ρ1 σ H1 W2 ρ2 H2) (h : RpRs K fa W0 W1 ρ1 σ H1 rs vs) : RpRs K fa W0 W2 ρ2 σ H2 rs vs := by
  induction h with
  | nil => exact .nil
  | cons h d _ ih => exact .cons (h.pers r f) d ih
/-- data of results: fresh objects are given away -/
theorem RpRs.datas {K : PySem.W.Frag} {W0 W : Wd} {ρ : Env} {σ : L2.St} {H : Hp} : ∀ {rs : List RV} {vs : List V} {ds : List P}, RpRs K fa W0 W ρ σ H rs vs → Mp.datas rs = some ds →
    ∀ {W'' : Wd}, (∀ a, W'' a → W a) → (∀ a, W'' a → W0 a) → (∀ a, W a → ∃ o, H a = some o ∧ Mut (some o)) → RpA K W'' H ds vs
  | _, _, _, .nil, e, W'', _, _, _ => by cases e; exact .nil
  | _, _, _, .cons (r := r) h _ t, e, W'', m, m0, dm => by
    have sub : ∀ {d : P} {v : V}, Rp K W H d v → Rp K W'' H d v := fun q => Stay.rp ⟨fun _ _ e _ _ => e, fun a z => .inl (m a z), dm⟩ q
    cases r with
    | sh x =>
      cases x with
      | d x =>
        simp only [Mp.datas, Option.map_eq_some_iff] at e
        obtain ⟨ds, e1, e2⟩ := e
        subst e2
        exact .cons (sub h) (RpRs.datas t e1 m m0 dm)
      | _ => cases e
    | fr x =>
      cases x with
      | d x =>
        simp only [Mp.datas, Option.map_eq_some_iff] at e
        obtain ⟨ds, e1, e2⟩ := e
        subst e2
        refine .cons ?_ (RpRs.datas t e1 m m0 dm)
        obtain ⟨a, ea, w, n, o, r⟩ := h
        cases x with
        | list ds =>
          obtain ⟨xs, h1, h2, h3⟩ := r
          subst ea
          exact .lst h1 (fun z => n (m0 a z)) h2 (Stay.rpA ⟨fun _ _ e _ _ => e, fun a z => .inl (m a z), dm⟩ h3)
        | _ => exact r.elim
      | _ => cases e
    | br j => cases e
theorem RpRs.length {K : PySem.W.Frag} {W0 W : Wd} {ρ : Env} {σ : L2.St} {H : Hp} {rs : List RV} {vs : List V} (h : RpRs K fa W0 W ρ σ H rs vs) : rs.length = vs.length := by
  induction h with
  | nil => rfl
  | cons _ _ _ ih => simp [ih]
theorem RpRs.newV {K : PySem.W.Frag} {W W1 : Wd} {ρ : Env} {σ : L2.St} {H H1 : Hp} {rs : List RV} {vs : List V} {x : D} {a : Addr} (h : RpRs K fa (Ex_ H1) W ρ σ H rs vs) (r : RpO K W1 H1 x a) : V.ref a ∉ frV rs vs := by
  induction h with
  | nil => intro z; unfold frV at z; cases z
  | @cons r' v rs vs h d t ih =>
    cases r' with
    | sh y => unfold frV; exact ih
    | br y => unfold frV; exact ih
    | fr y =>
      unfold frV
      intro z
      rcases List.mem_cons.mp z with z | z
      · obtain ⟨b, eb, _, n, _⟩ := h
        rw [eb] at z
        cases z
        obtain ⟨o, eo, _⟩ := r.there
        exact n (by show H1 a ≠ none; rw [eo]; exact Option.some_ne_none o)
      · exact ih z
/-- an argument list -/
theorem pa_all : ∀ (es : List Expr) (ps : List Pr), Paired (Der X fa ca Wx) es ps → PA X es (rdA (cx X fa ca Wx) (evsL ps))
  | _, _, .nil => PA.mono pa_nil fun σ H Q ⟨W, ρ, rs, h⟩ => h W [] H (FxE.refl rs) .nil
  | e :: es, p :: ps, .cons d ds => by
    refine PA.mono (pa_cons d.v (pa_all es ps ds) (plain_star d.sy es _)) fun σ H Q ⟨W, ρ, rs, h⟩ => ?_
    refine ⟨W, ρ, rs, ?_⟩
    have h : OcA (cx X fa ca Wx) W ρ σ H (fun _ _ _ v H' => Q v H') ((p.v ρ).bind fun r ρ1 => (evsL ps ρ1).bind fun rs ρ2 => .ok (r :: rs) ρ2) := h
    cases e1 : p.v ρ with
    | ok r ρ1 =>
      rw [e1] at h
      refine fun W1 v H1 f1 q1 => ⟨W1, ρ1, f1.rs, ?_⟩
      have h : OcA (cx X fa ca Wx) W ρ σ H (fun _ _ _ v H' => Q v H') ((evsL ps ρ1).bind fun rs ρ2 => .ok (r :: rs) ρ2) := h
      cases e2 : evsL ps ρ1 with
      | ok rs2 ρ2 =>
        rw [e2] at h
        exact fun W2 vs H2 f2 q2 => h W2 _ H2 (f1.trans f2) (.cons (q1.pers f1.rs f2) (fun x ex => by
          subst ex
          obtain ⟨a, ea, _, _, _, r⟩ := q1
          subst ea
          exact q2.newV r) (q2.base f1.dm))
      | ex e ρ2 =>
        rw [e2] at h
        exact fun c d W2 H2 f2 q => h c d W2 H2 (f1.trans f2) q
      | bad => rw [e2] at h; exact h
    | ex e ρ1 => rw [e1] at h; exact h
    | bad => rw [e1] at h; exact h
end
end Mp

set_option maxRecDepth 100000
set_option maxHeartbeats 4000000
/-! Mp7: displays, slices, calls. -/
namespace Mp
open PySem PySem.Spec PyProof.Rows L2

theorem star_all {env : PySem.Env} (pos : Pos) : ∀ {es : List Expr}, (es.all plainE = true) → (backTo pos (starEach es env)).any (·.1) = false
  | [], _ => rfl
  | e :: es, h => by
    rw [List.all_cons, Bool.and_eq_true] at h
    rw [plain_star h.1]
    have ih := star_all (env := env) pos h.2
    show (false || (backTo pos (starEach es env)).any (·.1)) = false
    rw [ih]; rfl
theorem paired_plain {X : Cx} {fa : FT} {ca : FA} {Wx : WX} : ∀ {es : List Expr} {ps : List Pr}, Paired (Der X fa ca Wx) es ps → es.all plainE = true
  | _, _, .nil => rfl
  | _, _, .cons d ds => by rw [List.all_cons, d.sy, paired_plain ds]; rfl

section
variable {K : PySem.W.Frag} {fa : FT} {W W0 W1 W2 : Wd} {ρ ρ0 ρ1 ρ2 : Env} {σ : L2.St} {H H0 H1 H2 : Hp} {Q : VK} {v : V}
/-- what is new along the way is let go -/
theorem FxE.shrink (rs : RS K fa W ρ σ H) (f : FxE K fa W ρ σ H W1 ρ1 H1) : FxE K fa W ρ σ H W ρ1 H1 := by
  have s : Stay W1 H1 W H1 := ⟨fun _ _ e _ _ => e, fun a z => .inl (f.wm a z), f.rs.dom⟩
  refine ⟨⟨f.rs.len, fun i x e => ?_, fun i l x e => ?_, f.rs.inj, fun a z => f.rs.dom a (f.wm a z), f.rs.tab⟩, f.fr, f.sh, f.hs, fun _ z => z, fun _ z => .inl z, f.dm⟩
  · obtain ⟨v, e1, r⟩ := f.rs.val i x e
    exact ⟨v, e1, s.rpD r⟩
  · obtain ⟨a, e1, w, r⟩ := f.rs.own i l x e
    exact ⟨a, e1, rs.owW ((f.owIff a).mp ⟨i, l, x, e, e1⟩), s.rpO r fun _ _ e => e⟩
theorem Stay.shrink (rs : RS K fa W ρ σ H) (f : FxE K fa W ρ σ H W1 ρ1 H1) : Stay W1 H1 W H1 := ⟨fun _ _ e _ _ => e, fun a z => .inl (f.wm a z), f.rs.dom⟩
end

section
variable {X : Cx} {fa : FT} {ca : FA} {Wx : WX} {a b c : Expr} {pos : Pos}
theorem rdA_then {C : Ctx} {W : Wd} {ρ : Env} {σ : L2.St} {H : Hp} {Q : VK} {f : Env → R (List RV)} {k : List RV → Env → R RV} {Q' : List V → Hp → Prop} (rs : RS C.K C.fa W ρ σ H) (h : Oc C W ρ σ H Q ((f ρ).bind k))
    (hk : ∀ W1 ρ1 H1 rv vs, FxE C.K C.fa W ρ σ H W1 ρ1 H1 → RpRs C.K C.fa (Ex_ H) W1 ρ1 σ H1 rv vs → Oc C W ρ σ H Q (k rv ρ1) → Q' vs H1) : rdA C f σ H Q' := by
  refine ⟨W, ρ, rs, ?_⟩
  cases e : f ρ with
  | ok r ρ' =>
    rw [e] at h
    exact fun W' v H' g q => hk W' ρ' H' r v g q h
  | ex e' ρ' =>
    rw [e] at h
    exact h
  | bad =>
    rw [e] at h
    exact h
theorem fns_rp {C : Ctx} {W0 W : Wd} {ρ : Env} {σ : L2.St} {H : Hp} : ∀ {rs : List RV} {vs : List V} {is : List Nat}, RpRs C.K C.fa W0 W ρ σ H rs vs → fnsOf rs = some is → vs = is.map fun i => V.ref (C.fa i)
  | _, _, _, .nil, e => by cases e; rfl
  | _, _, _, .cons (r := r) h _ t, e => by
    cases r with
    | sh x =>
      cases x with
      | fn i =>
        simp only [fnsOf, Option.map_eq_some_iff] at e
        obtain ⟨is, e1, e2⟩ := e
        subst e2
        rw [fns_rp t e1, show _ = V.ref (C.fa i) from h]; rfl
      | _ => cases e
    | _ => cases e
theorem ex_tup {k : Nat} {es : List Expr} {ps : List Pr} (h : Paired (Der X fa ca Wx) es ps) : PE X (.Tuple es k pos) (rd (cx X fa ca Wx) fun ρ => (evsL ps ρ).bind tupE) := by
  refine PE.mono (pe_tup (pa_all es ps h)) fun σ H Q ⟨W, ρ, rs, h⟩ => ?_
  refine rdA_then rs h fun W1 ρ1 H1 rv vs f1 q1 h1 => ?_
  have hl := q1.length
  unfold tupE at h1
  split at h1
  · rename_i hz
    refine ⟨line_le (by omega), fun p n => ?_⟩
    have fS := FxE.shrink rs f1
    have g := FxE.grow (H' := upd H1 p (.tup vs)) fS.rs (grow_upd n)
    cases e : datas rv with
    | some xs =>
      rw [e] at h1
      have ra : RpA X.K W H1 xs vs := q1.datas e f1.wm rs.ex f1.rs.dom
      exact h1 W _ _ (fS.trans g) (rp_newTup fS.rs.dom ra (line_le (by omega)) n).2
    | none =>
      rw [e] at h1
      simp only at h1
      cases e2 : fnsOf rv with
      | some is =>
        rw [e2] at h1
        have ev := fns_rp (C := cx X fa ca Wx) q1 e2
        refine h1 W _ _ (fS.trans g) ⟨p, rfl, ?_, ?_⟩
        · rw [← ev]; exact .inl (.inl upd_same)
        · have : is.length = vs.length := by rw [ev, List.length_map]
          exact line_le (by omega)
      | none => rw [e2] at h1; exact h1.elim
  · exact h1.elim
theorem ex_lst {es : List Expr} {ps : List Pr} (h : Paired (Der X fa ca Wx) es ps) : PE X (.List es pos) (rd (cx X fa ca Wx) fun ρ => (evsL ps ρ).bind lstE) := by
  refine PE.mono (pe_lst (pa_all es ps h)) fun σ H Q ⟨W, ρ, rs, h⟩ => ?_
  refine rdA_then rs h fun W1 ρ1 H1 rv vs f1 q1 h1 => ?_
  have hl := q1.length
  unfold lstE at h1
  split at h1
  · rename_i hz
    refine ⟨line_le (by omega), fun p n => ?_⟩
    have fS := FxE.shrink rs f1
    cases e : datas rv with
    | some xs =>
      rw [e] at h1
      have ra : RpA X.K W H1 xs vs := q1.datas e f1.wm rs.ex f1.rs.dom
      have g := FxE.own (xs := vs) fS.rs n
      refine h1 _ _ _ (fS.trans g) ⟨p, rfl, .inr rfl, fun z => f1.dm p z n, Ow.not fS.rs n, vs, upd_same, line_le (by omega), ?_⟩
      exact Stay.rpA ⟨fun a o e _ _ => grow_upd n a o e, g.wg, fS.rs.dom⟩ ra
    | none => rw [e] at h1; exact h1.elim
  · exact h1.elim

/-! ### slices -/
def OcO (C : Ctx) (W : Wd) (ρ : Env) (σ : L2.St) (H : Hp) (Q : Option Int → Env → Wd → Hp → Prop) (r : R (Option Int)) : Prop := OcG C W ρ σ H Q r
def rdO (C : Ctx) (f : Env → R (Option Int)) : TO := fun σ H Q => ∃ W ρ, RS C.K C.fa W ρ σ H ∧ OcG C W ρ σ H (fun o _ _ H' => Q o H') (f ρ)
theorem po_no : PO X none (rdO (cx X fa ca Wx) fun ρ => .ok none ρ) := PO.mono po_none fun σ H Q ⟨W, ρ, rs, h⟩ => h W H (FxE.refl rs)
theorem po_yes {ta : Env → R RV} (ha : PE X a (rd (cx X fa ca Wx) ta)) : PO X (some a) (rdO (cx X fa ca Wx) fun ρ => (ta ρ).bind fun r ρ1 => match toI r ρ1 with
    | some i => .ok (some i) ρ1
    | none => .bad) := by
  refine PO.mono (po_some ha) fun σ H Q ⟨W, ρ, rs, h⟩ => ?_
  refine rd_thenG rs h fun W1 ρ1 H1 r v f1 q1 h1 => ?_
  unfold toI at h1
  cases e : derefP ρ1 r with
  | none => rw [e] at h1; exact h1.elim
  | some x =>
    rw [e] at h1
    cases x with
    | int i => exact ⟨i, ro_int (q1.ro f1.rs e), h1 W1 H1 (FxE.refl f1.rs)⟩
    | _ => exact h1.elim
theorem rdO_then {C : Ctx} {W : Wd} {ρ : Env} {σ : L2.St} {H : Hp} {Q : VK} {f : Env → R (Option Int)} {k : Option Int → Env → R RV} {Q' : Option Int → Hp → Prop} (rs : RS C.K C.fa W ρ σ H) (h : Oc C W ρ σ H Q ((f ρ).bind k))
    (hk : ∀ W1 ρ1 H1 b, FxE C.K C.fa W ρ σ H W1 ρ1 H1 → Oc C W1 ρ1 σ H1 Q (k b ρ1) → Q' b H1) : rdO C f σ H Q' := by
  refine ⟨W, ρ, rs, ?_⟩
  cases e : f ρ with
  | ok r ρ' =>
    rw [e] at h
    exact fun W' H' g => hk W' ρ' H' r g (Oc.step g h)
  | ex e' ρ' =>
    rw [e] at h
    exact h
  | bad =>
    rw [e] at h
    exact h
theorem ex_sl {lo hi : Option Expr} {p2 : Pos} {ta : Env → R RV} {tl th : Env → R (Option Int)} (ha : PE X a (rd (cx X fa ca Wx) ta)) (hl : PO X lo (rdO (cx X fa ca Wx) tl)) (hh : PO X hi (rdO (cx X fa ca Wx) th)) :
    PE X (.Subscript a (.Slice lo hi none p2) pos) (rd (cx X fa ca Wx) fun ρ => (ta ρ).bind fun r ρ1 => (tl ρ1).bind fun l ρ2 => (th ρ2).bind fun h ρ3 => un true (cutP l h) r ρ3) := by
  refine PE.mono (pe_slice slD ha hl hh) fun σ H Q ⟨W, ρ, rs, h⟩ => ?_
  refine rd_then rs h fun W1 ρ1 H1 r v f1 q1 h1 => rdO_then f1.rs h1 fun W2 ρ2 H2 l f2 h2 => rdO_then f2.rs h2 fun W3 ρ3 H3 u f3 h3 => ?_
  exact un_fin f3.rs h3 ((q1.pers f1.rs f2).pers f2.rs f3)

/-! ### built-in functions of one argument -/
theorem one_arg {ta : Env → R RV} {p : Pr} (d : Der X fa ca Wx a p) : PA X [a] (tCons (rd (cx X fa ca Wx) p.v) tNil) := pa_cons d.v pa_nil (plain_star d.sy [] _)
def biN : Bi → Str
  | .len => "len" | .abs => "abs" | .int => "int" | .all => "all" | .any => "any" | .tuple => "tuple" | .list => "list" | .sum => "sum" | .str => "str" | .sorted => "sorted" | .max => "max" | .min => "min" | .isi _ => "isinstance"
theorem ex_biB {f : P → Option P} {id : String} {x : Str} {p : Pos} {q : Pr} (hc : CallR X (.builtin id) (rB X.K f)) (hg : Gl X x) (hm : X.mg x = none) (hv : bootBuiltins x = some (.builtin id)) (hn : x ≠ "__name__") (hd : (x == ("__debug__" : Str)) = false) (d : Der X fa ca Wx a q) :
    PE X (.Call (.Name x p) [a] [] pos) (rd (cx X fa ca Wx) fun ρ => (q.v ρ).bind (un false f)) := by
  refine PE.mono (pe_callB hc hg hm hv (pa_cons d.v pa_nil (plain_star d.sy [] _)) hn hd (plain_star d.sy [] _) (star_all pos (es := []) rfl)) fun σ H Q ⟨W, ρ, rs, h⟩ => ?_
  exact rd_then rs h fun W1 ρ1 H1 r v f1 q1 h1 => ⟨v, rfl, uns_fin f1.rs h1 q1⟩
theorem ex_biT {f : P → Option P} {id : String} {x : Str} {p : Pos} {q : Pr} (hc : CallR X (.type id) (rB X.K f)) (hg : Gl X x) (hm : X.mg x = none) (hv : bootBuiltins x = some (.type id)) (hn : x ≠ "__name__") (hd : (x == ("__debug__" : Str)) = false) (d : Der X fa ca Wx a q) :
    PE X (.Call (.Name x p) [a] [] pos) (rd (cx X fa ca Wx) fun ρ => (q.v ρ).bind (un false f)) := by
  refine PE.mono (pe_callTy hc hg hm hv (pa_cons d.v pa_nil (plain_star d.sy [] _)) hn hd (plain_star d.sy [] _) (star_all pos (es := []) rfl)) fun σ H Q ⟨W, ρ, rs, h⟩ => ?_
  exact rd_then rs h fun W1 ρ1 H1 r v f1 q1 h1 => ⟨v, rfl, uns_fin f1.rs h1 q1⟩
theorem ex_list {x : Str} {p : Pos} {q : Pr} (hg : Gl X "list") (hm : X.mg "list" = none) (d : Der X fa ca Wx a q) :
    PE X (.Call (.Name "list" p) [a] [] pos) (rd (cx X fa ca Wx) fun ρ => (q.v ρ).bind lstR) := by
  refine PE.mono (pe_callTy cD_list hg hm (by decide +kernel) (pa_cons d.v pa_nil (plain_star d.sy [] _)) (by decide) (by decide) (plain_star d.sy [] _) (star_all pos (es := []) rfl)) fun σ H Q ⟨W, ρ, rs, h⟩ => ?_
  exact rd_then rs h fun W1 ρ1 H1 r v f1 q1 h1 => lst_fin f1.rs h1 q1
theorem ex_isi (T : Ty) {p p2 : Pos} {q : Pr} (hg : Gl X "isinstance") (hm : X.mg "isinstance" = none) (hgT : Gl X (Str.ofString T.s)) (hmT : X.mg (Str.ofString T.s) = none) (d : Der X fa ca Wx a q) :
    PE X (.Call (.Name "isinstance" p) [a, .Name (Str.ofString T.s) p2] [] pos) (rd (cx X fa ca Wx) fun ρ => (q.v ρ).bind (un false fun x => some (.bool (isiP T x)))) := by
  have hT : PE X (.Name (Str.ofString T.s) p2) (tC (.ty T.s)) := pe_bltn (u := .type T.s) hgT hmT (by cases T <;> decide +kernel) rfl (by cases T <;> decide +kernel) (by cases T <;> decide +kernel)
  refine PE.mono (pe_callB (cD_isi T) hg hm (by decide +kernel) (pa_cons d.v (pa_cons hT pa_nil (plain_star rfl [] _)) (plain_star d.sy _ _)) (by decide) (by decide) (plain_star d.sy _ _) (star_all pos (es := [.Name (Str.ofString T.s) p2]) rfl)) fun σ H Q ⟨W, ρ, rs, h⟩ => ?_
  refine rd_then rs h fun W1 ρ1 H1 r v f1 q1 h1 => ?_
  obtain ⟨W', x, c, hd, ro, e, q⟩ := uns_fin f1.rs h1 q1
  cases e
  exact ⟨v, W', x, rfl, ro, q _ _ (fun _ _ e => e) (.bl _)⟩
theorem ex_mx (m : Bool) {x : Str} {p : Pos} {q q' : Pr} (hc : CallR X (.builtin (if m then "max" else "min")) (fun xs H Q => ∃ i j, xs = [.int i, .int j] ∧ Q (.int (if m then (if j > i then j else i) else (if j < i then j else i))) H)) (hg : Gl X x) (hm : X.mg x = none) (hv : bootBuiltins x = some (.builtin (if m then "max" else "min"))) (hn : x ≠ "__name__") (hd : (x == ("__debug__" : Str)) = false) (d : Der X fa ca Wx a q) (d' : Der X fa ca Wx b q') :
    PE X (.Call (.Name x p) [a, b] [] pos) (rd (cx X fa ca Wx) fun ρ => (q.v ρ).bind fun r ρ1 => (q'.v ρ1).bind fun s ρ2 => bi2 false (mxP m) r s ρ2) := by
  refine PE.mono (pe_callB hc hg hm hv (pa_cons d.v (pa_cons d'.v pa_nil (plain_star d'.sy [] _)) (plain_star d.sy _ _)) hn hd (plain_star d.sy _ _) (star_all pos (es := [b]) (by rw [List.all_cons, d'.sy]; rfl))) fun σ H Q ⟨W, ρ, rs, h⟩ => ?_
  refine rd_then rs h fun W1 ρ1 H1 r v f1 q1 h1 => rd_then f1.rs h1 fun W2 ρ2 H2 s u f2 q2 h2 => ?_
  obtain ⟨W', x1, y1, z, hd', r1, r2, e, q⟩ := bi2s_fin f2.rs h2 (q1.pers f1.rs f2) q2
  cases x1 with
  | int i =>
    cases y1 with
    | int j =>
      cases e
      exact ⟨i, j, by rw [ro_int r1, ro_int r2], q _ _ (fun _ _ e => e) (.int _)⟩
    | _ => cases e
  | _ => cases e
end
end Mp

set_option maxRecDepth 100000
set_option maxHeartbeats 4000000
/-! Mp8: what a def promises by the evaluator; calls. -/
namespace Mp
open PySem PySem.Spec PyProof.Rows L2

/-- arguments as they stand: a lent one is owned by who calls -/
inductive ArR (K : PySem.W.Frag) (fa : FT) (W : Wd) (H : Hp) : List Arg → List V → Prop
  | nil : ArR K fa W H [] []
  | sh {x v as vs} : RpD K fa W H x v → ArR K fa W H as vs → ArR K fa W H (.sh x :: as) (v :: vs)
  | ln {x a as vs} : RpO K W H x a → W a → ArR K fa W H as vs → ArR K fa W H (.ln x :: as) (.ref a :: vs)
def LentA (as : List Arg) (vs : List V) (a : Addr) : Prop := ∃ (i : Nat) (x : D), as[i]? = some (Arg.ln x) ∧ vs[i]? = some (V.ref a)
/-- no object is lent twice -/
def LentI (as : List Arg) (vs : List V) : Prop := ∀ (i j : Nat) (x y : D) (a : Addr), as[i]? = some (Arg.ln x) → as[j]? = some (Arg.ln y) → vs[i]? = some (V.ref a) → vs[j]? = some (V.ref a) → i = j
inductive BkR (K : PySem.W.Frag) (W : Wd) (H : Hp) : List Arg → List V → List (Option D) → Prop
  | nil : BkR K W H [] [] []
  | sh {x v as vs bk} : BkR K W H as vs bk → BkR K W H (.sh x :: as) (v :: vs) (none :: bk)
  | ln {x y a as vs bk} : RpO K W H y a → W a → BkR K W H as vs bk → BkR K W H (.ln x :: as) (.ref a :: vs) (some y :: bk)
/-- from a call's beginning to its end -/
structure FxF (K : PySem.W.Frag) (fa : FT) (W : Wd) (H : Hp) (as : List Arg) (vs : List V) (bk : List (Option D)) (W' : Wd) (H' : Hp) : Prop where
  bk : BkR K W' H' as vs bk
  fr : ∀ a o, H a = some o → ¬ LentA as vs a → NT o → H' a = some o
  wm : ∀ a, W a → W' a
  wg : ∀ a, W' a → W a ∨ H a = none
  dm : ∀ a, H a ≠ none → H' a ≠ none
  dom : Dom W' H'
  tab : LamX.Tabs fa.t H'
def RetR (K : PySem.W.Frag) (fa : FT) (H : Hp) (W' : Wd) (H' : Hp) (x : D) (fresh : Bool) (v : V) : Prop :=
  if fresh then ∃ a, v = V.ref a ∧ W' a ∧ H a = none ∧ RpO K W' H' x a else RpD K fa W' H' x v
def OcF (K : PySem.W.Frag) (fa : FT) (ca : FA) (W : Wd) (H : Hp) (as : List Arg) (vs : List V) (Q : VK) (E : XK) : FR → Prop
  | .ok x fresh bk => ∀ W' v H', FxF K fa W H as vs bk W' H' → RetR K fa H W' H' x fresh v → Q v H'
  | .ex e bk => ∀ c d W' H', FxF K fa W H as vs bk W' H' → RpX ca e c d H' → E c d H'
  | .bad => False
/-- the promise of the def f by the evaluator -/
def spF (K : PySem.W.Frag) (fa : FT) (ca : FA) (Φ : Fs) (f : Nat) : Sp := fun vs H Q E => ∃ W as, Dom W H ∧ LamX.Tabs fa.t H ∧ ArR K fa W H as vs ∧ LentI as vs ∧ OcF K fa ca W H as vs Q E (Φ f as)

section
variable {K : PySem.W.Frag} {fa : FT} {W W0 W1 W2 W' : Wd} {ρ ρ0 ρ1 ρ2 : Env} {σ : L2.St} {H H' H0 H1 H2 : Hp} {Q : VK} {v : V}
theorem RpD.sub {x : D} (h : RpD K fa W H x v) (m : ∀ a, W' a → W a) (dm : Dom W H) : RpD K fa W' H x v :=
  Stay.rpD (W := W) ⟨fun _ _ e _ _ => e, fun a z => .inl (m a z), dm⟩ h
theorem RpO.sub {x : D} {a : Addr} (h : RpO K W H x a) (m : ∀ a, W' a → W a) (dm : Dom W H) : RpO K W' H x a :=
  Stay.rpO (W := W) ⟨fun _ _ e _ _ => e, fun a z => .inl (m a z), dm⟩ h fun _ _ e => e
/-- a fresh object is given away as a value -/
theorem RpO.give {x : D} {a : Addr} (h : RpO K W H x a) (n : ¬ W' a) (m : ∀ a, W' a → W a) (dm : Dom W H) : RpD K fa W' H x (.ref a) := by
  have h' := RpO.sub h m dm
  cases x with
  | d x =>
    cases x with
    | list ds =>
      obtain ⟨xs, h1, h2, h3⟩ := h'
      exact .lst h1 n h2 h3
    | _ => exact h'.elim
  | dct ks vs =>
    obtain ⟨kvs, h1, h2, h3, h4⟩ := h'
    exact ⟨a, rfl, n, kvs, .inl h1, h2, h3, h4⟩
  | _ => exact h'.elim


/-! the arguments of evaluated results -/
theorem argsOf_ln : ∀ {rv : List RV} {as : List Arg}, argsOf ρ rv = some as → ∀ (i : Nat) (x : D), as[i]? = some (Arg.ln x) → ∃ j l, rv[i]? = some (RV.br j) ∧ ρ[j]? = some (Sl.own l x)
  | [], _, e, i, x, h => by cases e; simp at h
  | r :: rv, as, e, i, x, h => by
    cases r with
    | sh y =>
      simp only [argsOf, Option.map_eq_some_iff] at e
      obtain ⟨as', e1, e2⟩ := e
      subst e2
      cases i with
      | zero => simp at h
      | succ i => exact argsOf_ln e1 i x (by simpa using h)
    | fr y =>
      simp only [argsOf, Option.map_eq_some_iff] at e
      obtain ⟨as', e1, e2⟩ := e
      subst e2
      cases i with
      | zero => simp at h
      | succ i => exact argsOf_ln e1 i x (by simpa using h)
    | br j =>
      simp only [argsOf] at e
      split at e
      · rename_i l y hy
        simp only [Option.map_eq_some_iff] at e
        obtain ⟨as', e1, e2⟩ := e
        subst e2
        cases i with
        | zero =>
          simp at h
          subst h
          exact ⟨j, l, rfl, hy⟩
        | succ i => exact argsOf_ln e1 i x (by simpa using h)
      · cases e
theorem lents_mem : ∀ {rv : List RV} {i j : Nat}, rv[i]? = some (RV.br j) → j ∈ lents rv
  | [], _, _, h => by simp at h
  | r :: rv, 0, j, h => by
    simp at h
    subst h
    exact List.mem_cons_self
  | r :: rv, i + 1, j, h => by
    have := lents_mem (rv := rv) (i := i) (j := j) (by simpa using h)
    cases r <;> first | exact this | exact List.mem_cons_of_mem _ this
theorem lents_inj : ∀ {rv : List RV}, (lents rv).Nodup → ∀ {i k j : Nat}, rv[i]? = some (RV.br j) → rv[k]? = some (RV.br j) → i = k
  | [], _, _, _, _, h, _ => by simp at h
  | r :: rv, nd, 0, 0, j, _, _ => rfl
  | r :: rv, nd, 0, k + 1, j, h1, h2 => by
    simp at h1
    subst h1
    have := lents_mem (rv := rv) (i := k) (j := j) (by simpa using h2)
    exact absurd this (List.nodup_cons.mp nd).1
  | r :: rv, nd, i + 1, 0, j, h1, h2 => by
    simp at h2
    subst h2
    have := lents_mem (rv := rv) (i := i) (j := j) (by simpa using h1)
    exact absurd this (List.nodup_cons.mp nd).1
  | r :: rv, nd, i + 1, k + 1, j, h1, h2 => by
    have nd' : (lents rv).Nodup := by
      cases r with
      | br j => exact (List.nodup_cons.mp nd).2
      | _ => exact nd
    rw [lents_inj nd' (i := i) (k := k) (j := j) (by simpa using h1) (by simpa using h2)]
theorem RpRs.get {rv : List RV} {vs : List V} (h : RpRs K fa W0 W ρ σ H rv vs) : ∀ {i : Nat} {r : RV}, rv[i]? = some r → ∃ v, vs[i]? = some v ∧ RpR K fa W0 W ρ σ H r v := by
  induction h with
  | nil => intro i r e; simp at e
  | cons h _ _ ih =>
    intro i r e
    cases i with
    | zero => simp at e; subst e; exact ⟨_, rfl, h⟩
    | succ i =>
      obtain ⟨v, e1, e2⟩ := ih (i := i) (r := r) (by simpa using e)
      exact ⟨v, by simpa using e1, e2⟩
/-- W1: with what is new; W: without -/
theorem args_rep (m0 : ∀ a, W a → W0 a) (m : ∀ a, W a → W1 a) (dm : Dom W1 H) (own : RS K fa W ρ σ H) : ∀ {rv : List RV} {vs : List V} {as : List Arg}, RpRs K fa W0 W1 ρ σ H rv vs → argsOf ρ rv = some as → ArR K fa W H as vs
  | _, _, _, .nil, e => by cases e; exact .nil
  | _, _, _, .cons (r := r) h _ t, e => by
    cases r with
    | sh y =>
      simp only [argsOf, Option.map_eq_some_iff] at e
      obtain ⟨as', e1, e2⟩ := e
      subst e2
      exact .sh (RpD.sub h m dm) (args_rep m0 m dm own t e1)
    | fr y =>
      simp only [argsOf, Option.map_eq_some_iff] at e
      obtain ⟨as', e1, e2⟩ := e
      subst e2
      obtain ⟨a, ea, w, n, o, r⟩ := h
      subst ea
      exact .sh (r.give (fun z => n (m0 _ z)) m dm) (args_rep m0 m dm own t e1)
    | br j =>
      simp only [argsOf] at e
      split at e
      · rename_i l y hy
        simp only [Option.map_eq_some_iff] at e
        obtain ⟨as', e1, e2⟩ := e
        subst e2
        obtain ⟨ev, l', y', hy'⟩ := h
        obtain ⟨a, e3, w, r⟩ := own.own j l y hy
        rw [ev] at e3
        cases e3
        exact .ln r w (args_rep m0 m dm own t e1)
      · cases e
theorem args_lentI (own : RS K fa W ρ σ H) {rv : List RV} {vs : List V} {as : List Arg} (h : RpRs K fa W0 W1 ρ σ H rv vs) (e : argsOf ρ rv = some as) (nd : (lents rv).Nodup) : LentI as vs := fun i k x y a h1 h2 e1 e2 => by
  obtain ⟨j, l, b1, o1⟩ := argsOf_ln e i x h1
  obtain ⟨j', l', b2, o2⟩ := argsOf_ln e k y h2
  obtain ⟨v, g1, s1, _⟩ := h.get b1
  obtain ⟨v', g2, s2, _⟩ := h.get b2
  rw [e1] at g1; cases g1
  rw [e2] at g2; cases g2
  have := own.inj j j' l l' x y a o1 o2 s1 s2
  subst this
  exact lents_inj nd b1 b2
theorem lent_slot {rv : List RV} {vs : List V} {as : List Arg} {a : Addr} (h : RpRs K fa W0 W1 ρ σ H rv vs) (e : argsOf ρ rv = some as) (la : LentA as vs a) : ∃ (i j : Nat) (l : Bool) (x : D), rv[i]? = some (RV.br j) ∧ ρ[j]? = some (Sl.own l x) ∧ σ[j]? = some (some (V.ref a)) := by
  obtain ⟨i, x, h1, h2⟩ := la
  obtain ⟨j, l, b1, o1⟩ := argsOf_ln e i x h1
  obtain ⟨v, g1, s1, _⟩ := h.get b1
  rw [h2] at g1; cases g1
  exact ⟨i, j, l, x, b1, o1, s1⟩

/-! what comes back -/
def bkAt : List RV → List (Option D) → Nat → Option D
  | .br j :: r, some y :: b, i => if j = i then some y else bkAt r b i
  | _ :: r, _ :: b, i => bkAt r b i
  | _, _, _ => none
theorem bkAt_not : ∀ {rv : List RV} {bk : List (Option D)} {i : Nat}, i ∉ lents rv → bkAt rv bk i = none
  | [], _, _, _ => by unfold bkAt; rfl
  | r :: rv, [], i, h => by cases r <;> (unfold bkAt; rfl)
  | .sh _ :: rv, b :: bk, i, h => by
    have := bkAt_not (rv := rv) (bk := bk) (i := i) h
    unfold bkAt; exact this
  | .fr _ :: rv, b :: bk, i, h => by
    have := bkAt_not (rv := rv) (bk := bk) (i := i) h
    unfold bkAt; exact this
  | .br j :: rv, b :: bk, i, h => by
    have h' : ¬ (i = j ∨ i ∈ lents rv) := fun z => h (List.mem_cons.mpr z)
    have := bkAt_not (rv := rv) (bk := bk) (i := i) fun z => h' (.inr z)
    cases b with
    | none => unfold bkAt; exact this
    | some y =>
      unfold bkAt
      rw [if_neg (fun z => h' (.inl z.symm))]
      exact this
theorem putBk_other : ∀ {rv : List RV} {bk : List (Option D)} {ρ : Env} {i : Nat}, (∀ l x, ρ[i]? ≠ some (Sl.own l x)) → (putBk rv bk ρ)[i]? = ρ[i]?
  | [], _, _, _, _ => by unfold putBk; rfl
  | r :: rv, [], ρ, i, h => by cases r <;> (unfold putBk; rfl)
  | .sh _ :: rv, b :: bk, ρ, i, h => by unfold putBk; exact putBk_other h
  | .fr _ :: rv, b :: bk, ρ, i, h => by unfold putBk; exact putBk_other h
  | .br j :: rv, none :: bk, ρ, i, h => by unfold putBk; exact putBk_other h
  | .br j :: rv, some y :: bk, ρ, i, h => by
    unfold putBk
    split
    · rename_i l x hx
      have hij : i ≠ j := fun z => by subst z; exact h _ _ hx
      have e : (ρ.set j (Sl.own l y))[i]? = ρ[i]? := List.getElem?_set_ne (Ne.symm hij)
      rw [putBk_other (by rw [e]; exact h), e]
    · exact putBk_other h
theorem putBk_own : ∀ {rv : List RV} {bk : List (Option D)} {ρ : Env} {i : Nat} {l : Bool} {x : D}, (lents rv).Nodup → ρ[i]? = some (Sl.own l x) → (putBk rv bk ρ)[i]? = some (Sl.own l ((bkAt rv bk i).getD x))
  | [], _, _, _, _, _, _, h => by unfold putBk bkAt; exact h
  | r :: rv, [], ρ, i, l, x, _, h => by cases r <;> (unfold putBk bkAt; exact h)
  | .sh _ :: rv, b :: bk, ρ, i, l, x, nd, h => by unfold putBk bkAt; exact putBk_own (rv := rv) nd h
  | .fr _ :: rv, b :: bk, ρ, i, l, x, nd, h => by unfold putBk bkAt; exact putBk_own (rv := rv) nd h
  | .br j :: rv, none :: bk, ρ, i, l, x, nd, h => by unfold putBk bkAt; exact putBk_own (List.nodup_cons.mp nd).2 h
  | .br j :: rv, some y :: bk, ρ, i, l, x, nd, h => by
    have nd' := List.nodup_cons.mp nd
    unfold putBk bkAt
    by_cases hij : j = i
    · subst hij
      rw [h]
      simp only
      have hl : j < ρ.length := (List.getElem?_eq_some_iff.mp h).1
      rw [if_pos trivial, putBk_own (x := y) nd'.2 (by rw [List.getElem?_set_self hl]), bkAt_not nd'.1]
      rfl
    · rw [if_neg hij]
      split
      · rename_i l' x' hx'
        exact putBk_own nd'.2 (by rw [List.getElem?_set_ne hij]; exact h)
      · exact putBk_own nd'.2 h
theorem putBk_len : ∀ {rv : List RV} {bk : List (Option D)} {ρ : Env}, (putBk rv bk ρ).length = ρ.length
  | [], _, _ => by unfold putBk; rfl
  | r :: rv, [], ρ => by cases r <;> (unfold putBk; rfl)
  | .sh _ :: rv, b :: bk, ρ => by unfold putBk; exact putBk_len
  | .fr _ :: rv, b :: bk, ρ => by unfold putBk; exact putBk_len
  | .br j :: rv, none :: bk, ρ => by unfold putBk; exact putBk_len
  | .br j :: rv, some y :: bk, ρ => by
    unfold putBk
    split
    · rw [putBk_len, List.length_set]
    · exact putBk_len
theorem bk_at : ∀ {rv : List RV} {vs : List V} {as : List Arg} {bk : List (Option D)} {W2 : Wd} {H2 : Hp}, RpRs K fa W0 W1 ρ σ H rv vs → argsOf ρ rv = some as → BkR K W2 H2 as vs bk →
    ∀ {j : Nat}, (∀ {y : D}, bkAt rv bk j = some y → ∃ a, σ[j]? = some (some (V.ref a)) ∧ W2 a ∧ RpO K W2 H2 y a) ∧ (bkAt rv bk j = none → j ∉ lents rv)
  | _, _, _, _, W2, H2, .nil, e, b, j => by
    cases e; cases b
    exact ⟨fun h => (by unfold bkAt at h; cases h), fun _ => (by simp [lents])⟩
  | _, _, _, _, W2, H2, .cons (r := r) h _ t, e, b, j => by
    cases r with
    | sh y =>
      simp only [argsOf, Option.map_eq_some_iff] at e
      obtain ⟨as', e1, e2⟩ := e
      subst e2
      cases b with
      | sh b =>
        obtain ⟨i1, i2⟩ := bk_at t e1 b (j := j)
        exact ⟨fun h => i1 (by unfold bkAt at h; exact h), fun h => i2 (by unfold bkAt at h; exact h)⟩
    | fr y =>
      simp only [argsOf, Option.map_eq_some_iff] at e
      obtain ⟨as', e1, e2⟩ := e
      subst e2
      cases b with
      | sh b =>
        obtain ⟨i1, i2⟩ := bk_at t e1 b (j := j)
        exact ⟨fun h => i1 (by unfold bkAt at h; exact h), fun h => i2 (by unfold bkAt at h; exact h)⟩
    | br j' =>
      simp only [argsOf] at e
      split at e
      · rename_i l y hy
        simp only [Option.map_eq_some_iff] at e
        obtain ⟨as', e1, e2⟩ := e
        subst e2
        cases b with
        | ln r w b =>
          obtain ⟨i1, i2⟩ := bk_at t e1 b (j := j)
          obtain ⟨ev, _⟩ := h
          refine ⟨fun h => ?_, fun h => ?_⟩
          · unfold bkAt at h
            by_cases hj : j' = j
            · rw [if_pos hj] at h
              cases h
              subst hj
              exact ⟨_, ev, w, r⟩
            · rw [if_neg hj] at h
              exact i1 h
          · unfold bkAt at h
            by_cases hj : j' = j
            · rw [if_pos hj] at h; cases h
            · rw [if_neg hj] at h
              intro z
              rcases List.mem_cons.mp z with z | z
              · exact hj z.symm
              · exact i2 h z
      · cases e
/-- behind a call -/
theorem fx_call (own : RS K fa W ρ σ H) {rv : List RV} {vs : List V} {as : List Arg} {bk : List (Option D)} (h : RpRs K fa W0 W1 ρ σ H rv vs) (e : argsOf ρ rv = some as) (nd : (lents rv).Nodup)
    (f : FxF K fa W H as vs bk W2 H2) : FxE K fa W ρ σ H W2 (putBk rv bk ρ) H2 := by
  have notL : ∀ a, ¬ W a → ¬ LentA as vs a := fun a n la => by
    obtain ⟨i, j, l, x, _, o, s⟩ := lent_slot h e la
    exact n (own.owW ⟨j, l, x, o, s⟩)
  have st : Stay W H W2 H2 := ⟨fun a o e n nt => f.fr a o e (notL a n) nt, f.wg, own.dom⟩
  have fwd : ∀ i l x, ρ[i]? = some (Sl.own l x) → (putBk rv bk ρ)[i]? = some (Sl.own l ((bkAt rv bk i).getD x)) := fun i l x => putBk_own nd
  have bwd : ∀ i, (∀ l x, ρ[i]? ≠ some (Sl.own l x)) → (putBk rv bk ρ)[i]? = ρ[i]? := fun i => putBk_other
  have back : ∀ i l y, (putBk rv bk ρ)[i]? = some (Sl.own l y) → ∃ x, ρ[i]? = some (Sl.own l x) ∧ y = (bkAt rv bk i).getD x := fun i l y hy => by
    cases q : ρ[i]? with
    | none => rw [bwd i (fun _ _ z => by rw [q] at z; cases z), q] at hy; cases hy
    | some s =>
      cases s with
      | own l' x =>
        rw [fwd i l' x q] at hy
        cases hy
        exact ⟨x, rfl, rfl⟩
      | un => rw [bwd i (fun _ _ z => by rw [q] at z; cases z), q] at hy; cases hy
      | val _ => rw [bwd i (fun _ _ z => by rw [q] at z; cases z), q] at hy; cases hy
  refine ⟨⟨by rw [putBk_len]; exact own.len, fun i x hx => ?_, fun i l y hy => ?_, fun i j l l' x x' a h1 h2 => ?_, f.dom, f.tab⟩, fun a o ea n nt => f.fr a o ea (fun la => ?_) nt, fun i l x hx => ⟨_, fwd i l x hx⟩, fun i l x hx => ?_, f.wm, f.wg, f.dm⟩
  · cases q : ρ[i]? with
    | none => rw [bwd i (fun _ _ z => by rw [q] at z; cases z), q] at hx; cases hx
    | some s =>
      cases s with
      | own l' x' => rw [fwd i l' x' q] at hx; cases hx
      | un => rw [bwd i (fun _ _ z => by rw [q] at z; cases z), q] at hx; cases hx
      | val x' =>
        rw [bwd i (fun _ _ z => by rw [q] at z; cases z), q] at hx
        cases hx
        obtain ⟨v, e1, r⟩ := own.val i x q
        exact ⟨v, e1, st.rpD r⟩
  · obtain ⟨x, hx, ey⟩ := back i l y hy
    obtain ⟨a, e1, w, r⟩ := own.own i l x hx
    obtain ⟨b1, b2⟩ := bk_at h e f.bk (j := i)
    cases q : bkAt rv bk i with
    | some y' =>
      rw [q] at ey
      simp only [Option.getD_some] at ey
      subst ey
      obtain ⟨a', e2, w2, r2⟩ := b1 q
      exact ⟨a', e2, w2, r2⟩
    | none =>
      rw [q] at ey
      simp only [Option.getD_none] at ey
      subst ey
      refine ⟨a, e1, f.wm a w, st.rpO r fun o nt ho => f.fr a o ho (fun la => ?_) nt⟩
      obtain ⟨k, j, l', x', b, o', s⟩ := lent_slot h e la
      have := own.inj i j l l' y x' a hx o' e1 s
      subst this
      exact b2 q (lents_mem b)
  · obtain ⟨y, hy, _⟩ := back i l x h1
    obtain ⟨y', hy', _⟩ := back j l' x' h2
    exact own.inj i j l l' y y' a hy hy'
  · obtain ⟨i, j, l, x, _, o', s⟩ := lent_slot h e la
    exact n ⟨j, l, x, o', s⟩
  · obtain ⟨y, hy, _⟩ := back i l x hx
    exact ⟨y, hy⟩
end

/-! ### the call -/
section
variable {X : Cx} {fa : FT} {ca : FA} {Wx : WX} {pos p : Pos}
structure FnC (X : Cx) (fa : FT) (ca : FA) (k : Nat) (Φ : Fs) (i : Nat) (x : Str) : Prop where
  mg : X.mg x = some (.ref (fa i))
  kp : PySem.W.keepIn X.K (.ref (fa i)) = true
  ok : ∃ fd ps, FnOk X.prog X.w X.K X.mg X.base (L2.CX X.prog X.w) k (fa i) fd ps (spF X.K fa ca Φ i) ∧ Binds X.K fd ps []
theorem call_fin {Φ : Fs} {i : Nat} {W W1 : Wd} {ρ ρ1 : Env} {σ : L2.St} {H H1 : Hp} {Q : VK} {rv : List RV} {vs : List V} (rs : RS X.K fa W ρ σ H) (f1 : FxE X.K fa W ρ σ H W1 ρ1 H1) (q1 : RpRs X.K fa (Ex_ H) W1 ρ1 σ H1 rv vs)
    (h : Oc (cx X fa ca Wx) W ρ σ H Q (callE Φ i rv ρ1)) : spF X.K fa ca Φ i vs H1 Q (WE Wx σ) := by
  unfold callE at h
  split at h
  · rename_i nd
    cases e : argsOf ρ1 rv with
    | none => rw [e] at h; exact h.elim
    | some as =>
      rw [e] at h
      simp only at h
      have fS := FxE.shrink rs f1
      refine ⟨W, as, fS.rs.dom, fS.rs.tab, args_rep rs.ex f1.wm f1.rs.dom fS.rs q1 e, args_lentI fS.rs q1 e nd, ?_⟩
      cases ep : Φ i as with
      | ok x fr bk =>
        rw [ep] at h
        intro W2 v H2 g r
        have fc := fx_call fS.rs q1 e nd g
        refine h W2 v H2 (fS.trans fc) ?_
        cases fr with
        | true =>
          obtain ⟨a, ea, w, n, r⟩ := r
          refine ⟨a, ea, w, fun z => f1.dm a z n, fun z => ?_, r⟩
          have := (fc.owIff a).mp z
          exact Ow.not fS.rs n this
        | false => exact r
      | ex e' bk =>
        rw [ep] at h
        intro c d W2 H2 g r
        have fc := fx_call fS.rs q1 e nd g
        exact h c d W2 H2 (fS.trans fc) r
      | bad => rw [ep] at h; exact h.elim
  · exact h.elim
theorem ex_call {Φ : Fs} {k i : Nat} {x : Str} {es : List Expr} {ps : List Pr} (F : FnC X fa ca k Φ i x) (hr : Room k X.A) (tk : Takes X Wx) (hg : Gl X x) (hdb : (x == ("__debug__" : Str)) = false) (h : Paired (Der X fa ca Wx) es ps) :
    PE X (.Call (.Name x p) es [] pos) (rd (cx X fa ca Wx) fun ρ => (evsL ps ρ).bind (callE Φ i)) := by
  obtain ⟨fd, pn, ok, hb⟩ := F.ok
  have pa := pa_all es ps h
  have hp := paired_plain h
  cases h with
  | nil =>
    refine ⟨fun pins s σ H Q I ⟨W, ρ, rs, h⟩ => ?_⟩
    refine wpAny_Call_Name_kw (ld_glob I hg F.mg ?_ hdb)
    refine PySem.W.callWith_K0 I.kIn F.kp (run_fnS (us := []) ok hr hb (passAt tk σ) I .nil ?_)
    exact call_fin rs (FxE.refl rs) .nil h
  | cons d ds =>
    rename_i e p1 es' ps'
    rw [List.all_cons, Bool.and_eq_true] at hp
    refine PE.mono (pe_callS ok hr hg F.mg F.kp hb (passAt tk) pa hdb (plain_star hp.1 _ _) (star_all pos hp.2)) fun σ H Q ⟨W, ρ, rs, h⟩ => ?_
    exact rdA_then rs h fun W1 ρ1 H1 rv vs f1 q1 h1 => call_fin rs f1 q1 h1
end
end Mp

set_option maxRecDepth 100000
set_option maxHeartbeats 1000000
/-! MpL: sorted(xs, key=lambda p: ..): the lambda is made, called item by item. -/
namespace Mp
open PySem PySem.Spec PyProof.Rows L2

/-! ### heaps whose frames alone differ -/
theorem isCell_kf {fs : List Addr} {h h' : Heap} {c : Addr} {v : Option Value} (k : KF fs exN h h') (e : h.IsCell c v) : h'.IsCell c v := by
  obtain ⟨o, e1, e2⟩ := e
  obtain ⟨sl, q, _⟩ := k c o (fun z => z) e1
  exact ⟨_, q, e2⟩
theorem funFrames_kf {fs : List Addr} {base h h' : Heap} (k : KF fs exN h h') : ∀ {l : List PySem.Env}, h.FunFrames base l → h'.FunFrames base l
  | [], _ => trivial
  | env :: l, x => by
    obtain ⟨x1, ⟨L, o, x2, x3, x4, x5⟩, x6⟩ := x
    obtain ⟨sl, q, _⟩ := k L o (fun z => z) x4
    exact ⟨x1, ⟨L, _, x2, x3, q, x5⟩, funFrames_kf k x6⟩

/-! ### the making -/
section
variable {X : Cx} {pins : List (Addr × Obj)} {σ : L2.St} {H : Hp} {s : Shared}
/-- what a def that makes lambdas has: its code object, its table -/
structure MkL (X : Cx) (T : List (Addr × Str)) : Prop where
  ex : ∃ c P, LamX.TabB X.base X.mg c P ∧ X.env.code = .ref c ∧ (P, X.env.qual ++ "<lambda>") ∈ T ∧ ∀ p ∈ T, p.1 = P → p.2 = X.env.qual ++ "<lambda>"
abbrev lamO (X : Cx) (params : Arguments) (body : Expr) (scope : Scope) (pm : Value) (c : Addr) (ct : Value) : Obj := PySem.W.kla_obj "<lambda>" (X.env.qual ++ "<lambda>") params body scope (cloFrom X.env.cells scope.names []) pm c ct
/-- the function object f is new; its code object is known; the tables alone may have grown -/
structure Made (X : Cx) (T : List (Addr × Str)) (params : Arguments) (body : Expr) (scope : Scope) (H H1 : Hp) (s1 : Shared) (f : Addr) : Prop where
  k : ∀ a o, H a = some o → NT o → H1 a = some o
  dm : ∀ a, H a ≠ none → H1 a ≠ none
  tab : LamX.Tabs T H1
  o : ∃ pm c ct, s1.heap.get? f = some (lamO X params body scope pm c ct) ∧ H1 c = some (LamX.CodeO c (X.env.qual ++ "<lambda>"))
  n : H1 f = none
  nf : f ∉ frs X.stack
theorem lam_made {T : List (Addr × Str)} {params : Arguments} {body : Expr} {scope : Scope} {pos : Pos} {E : Value → Shared → Prop} {Q : Value → Shared → Prop} (I : Inv X pins σ H s) (M : MkL X T) (hT : LamX.Tabs T H) (hd : defaultsOf params X.env = ([], []))
    (hf : ∀ y ∈ scope.names, y.2 = .free → ∃ c, X.env.cells.lookup y.1 = some c) (h : ∀ (f : Addr) (H1 : Hp) (s1 : Shared), Inv X pins σ H1 s1 → Made X T params body scope H H1 s1 f → Q (.ref f) s1) :
    wpAny (model X.prog X.w) X.A (eval (.Lambda params body scope pos) X.env) Q E s := by
  obtain ⟨c, P, B, hc, hm, hu⟩ := M.ex
  obtain ⟨ps, hP, ht, ha⟩ := hT _ hm
  have hP : H P = some (.tbl ps) := hP
  have oP : s.heap.get? P = some { cls := .none, data := .fields ps } := I.hok P _ hP
  have bP : s.heap.BuiltinsAt X.mg P := B.bm.keeps I.bk
  have notFr : ∀ q, s.heap.objs.size ≤ q → q ∉ frs X.stack := fun q hq z => by
    have z' := I.stkSub q z
    rw [List.mem_cons] at z'
    rcases z' with rfl | z'
    · exact absurd I.lt (Nat.not_lt_of_le hq)
    · exact I.nofs hq z'
  have cl := closure_ok hf
  refine PySem.W.kla_eval hd ?_
  cases e : codeAmong pos ps.toList with
  | some cv =>
    obtain ⟨c1, rfl, k1⟩ := ha pos cv e
    refine PySem.W.kla_makeFunctionHit (mg := X.mg) (c := c) (P := P) (ps := ps) cl I.ok.glob (I.mod.glob.keeps I.bk) hc (B.code.keeps I.bk) oP ht e bP fun ct h1 tk kp sz => ?_
    exact h _ H _ (I.kept fun b o q => Heap.get?_push_of_some _ (kp b o q)) ⟨fun _ _ q _ => q, fun _ q => q, hT, ⟨_, c1, ct, Heap.get?_push_size _ rfl, k1⟩, I.hok.fresh sz, notFr _ sz⟩
  | none =>
    refine PySem.W.kla_makeFunction (mg := X.mg) (c := c) (P := P) (ps := ps) cl I.ok.glob (I.mod.glob.keeps I.bk) hc (B.code.keeps I.bk) oP ht e B.gP bP fun c1 ct h1 tk kp lo hi rec at_ => ?_
    obtain ⟨c2, oc, vs, t, e2, r1, r2, r3⟩ := rec
    cases e2
    have sz : s.heap.objs.size ≤ h1.objs.size := Nat.le_of_lt (Nat.lt_of_le_of_lt lo hi)
    have n1 : H c1 = none := I.hok.fresh lo
    have nP : c1 ≠ P := fun z => by rw [z, hP] at n1; cases n1
    have J := LamX.inv_table (t' := tk) (q := X.env.qual ++ "<lambda>") (more := #[rawInt pos.line, rawInt pos.col, .ref c1]) (h' := h1.push (lamO X params body scope ((X.mg "__name__").getD .none) c1 ct)) I hP
      (fun b o hb q => Heap.get?_push_of_some _ (kp b o hb q)) (Heap.get?_push_of_some _ at_) lo ⟨oc, vs, t, Heap.get?_push_of_some _ r1, r2, r3⟩
    have al : ∀ a, a ≠ c1 → a ≠ P → upd (upd H P (.tbl (ps ++ #[rawInt pos.line, rawInt pos.col, .ref c1]))) c1 (LamX.CodeO c1 (X.env.qual ++ "<lambda>")) a = H a := fun a z1 z2 => by rw [upd_ne z1, upd_ne z2]
    have old : ∀ a o, H a = some o → NT o → upd (upd H P (.tbl (ps ++ #[rawInt pos.line, rawInt pos.col, .ref c1]))) c1 (LamX.CodeO c1 (X.env.qual ++ "<lambda>")) a = some o := fun a o q nt => by
      rw [al a (ne_of_none q n1) (fun z => by rw [z, hP] at q; cases q; exact nt _ rfl)]
      exact q
    have pL : (ps ++ #[rawInt pos.line, rawInt pos.col, .ref c1]).toList = ps.toList ++ [rawInt pos.line, rawInt pos.col, .ref c1] := by simp
    refine h _ _ _ J ⟨old, fun a q => ?_, fun p hp => ?_, ⟨_, c1, ct, Heap.get?_push_size _ rfl, upd_same⟩, ?_, notFr _ sz⟩
    · by_cases z1 : a = c1
      · rw [z1, upd_same]; exact Option.some_ne_none _
      · by_cases z2 : a = P
        · rw [z2, upd_ne (Ne.symm nP), upd_same]; exact Option.some_ne_none _
        · rw [al a z1 z2]; exact q
    · have keepC : ∀ {b : Addr} {q : Str}, H b = some (LamX.CodeO b q) → upd (upd H P (.tbl (ps ++ #[rawInt pos.line, rawInt pos.col, .ref c1]))) c1 (LamX.CodeO c1 (X.env.qual ++ "<lambda>")) b = some (LamX.CodeO b q) := fun q => old _ _ q LamX.codeO_ne
      by_cases hb : p.1 = P
      · rw [hu p hp hb, hb]
        refine ⟨_, by rw [upd_ne (Ne.symm nP), upd_same], by rw [pL]; exact PySem.TriplesOk_snoc _ _ _ _ ht, fun p1 cv q => ?_⟩
        rw [pL] at q
        rcases LamX.among_app _ ht q with q | q
        · obtain ⟨c0, q1, q2⟩ := ha p1 cv q
          exact ⟨c0, q1, keepC q2⟩
        · exact ⟨c1, q, upd_same⟩
      · obtain ⟨ps1, q1, q2, q3⟩ := hT p hp
        refine ⟨ps1, by rw [al _ (ne_of_none q1 n1) hb]; exact q1, q2, fun p1 cv q => ?_⟩
        obtain ⟨c0, z1, z2⟩ := q3 p1 cv q
        exact ⟨c0, z1, keepC z2⟩
    · rw [al _ (Nat.ne_of_gt hi) (Nat.ne_of_gt (Nat.lt_of_lt_of_le (Heap.lt_size oP) sz))]
      exact I.hok.fresh sz
end

/-! ### what a key's call sees: tuples, known to the last sign -/
/-- the tuples alone, frozen -/
def frzH (h : Heap) (H : Hp) : Hp := fun b => match H b with
  | some (.tup xs) => (h.get? b).map fun o => .frz o (.tup xs)
  | some (.frz o (.tup xs)) => some (.frz o (.tup xs))
  | _ => none
section
variable {K : PySem.W.Frag} {W : Wd} {H : Hp} {h : Heap}
theorem frzH_none {b : Addr} (n : H b = none) : frzH h H b = none := by unfold frzH; rw [n]
theorem frzH_inv {b : Addr} {u : HO} (e : frzH h H b = some u) : ∃ o xs, u = .frz o (.tup xs) ∧ ((H b = some (.tup xs) ∧ h.get? b = some o) ∨ H b = some (.frz o (.tup xs))) := by
  unfold frzH at e
  split at e
  · rename_i xs q
    obtain ⟨o, e1, e2⟩ := Option.map_eq_some_iff.mp e
    exact ⟨o, xs, e2.symm, .inl ⟨q, e1⟩⟩
  · rename_i o xs q
    cases e
    exact ⟨o, xs, rfl, .inr q⟩
  · cases e
theorem frzH_tup {P : Program} {w : World} (ok : HOk P w H h) {b : Addr} {xs : List V} (r : Rd H b (.tup xs)) : Rd (frzH h H) b (.tup xs) := by
  rcases r with r | ⟨o, r⟩
  · have q := (ok b _ r).lt
    have : ∃ o, h.get? b = some o := by
      obtain ⟨_, _, _, o, e, _⟩ := ok b _ r
      exact ⟨_, e⟩
    obtain ⟨o, e⟩ := this
    exact .inr ⟨o, by unfold frzH; rw [r]; show (h.get? b).map _ = _; rw [e]; rfl⟩
  · exact .inr ⟨o, by unfold frzH; rw [r]⟩
mutual
theorem rp_frz {P : Program} {w : World} (ok : HOk P w H h) : ∀ (d : Mp.P) (v : V), noL d = true → Rp K W H d v → Rp K (fun _ => False) (frzH h H) d v
  | .none, _, _, r => by cases r; exact .non
  | .bool b, _, _, r => by cases r; exact .bl b
  | .int i, _, _, r => by cases r; exact .int i
  | .str x, _, _, r => by cases r with | str _ h1 h2 => exact .str x h1 h2
  | .list ds, _, n, _ => by cases n
  | .dict ds, _, n, _ => by cases n
  | .tuple ds, _, n, r => by
    cases r with
    | tup h1 h2 h3 =>
      refine .tup ?_ h2 (rpA_frz ok ds _ n h3)
      rcases h1 with h1 | h1
      · exact .inl (frzH_tup ok h1)
      · exact .inr h1
theorem rpA_frz {P : Program} {w : World} (ok : HOk P w H h) : ∀ (ds : List Mp.P) (vs : List V), noLs ds = true → RpA K W H ds vs → RpA K (fun _ => False) (frzH h H) ds vs
  | [], _, _, r => by cases r; exact .nil
  | d :: ds, _, n, r => by
    cases r with
    | cons r1 r2 =>
      have n : (noL d && noLs ds) = true := n
      rw [Bool.and_eq_true] at n
      exact .cons (rp_frz ok d _ n.1 r1) (rpA_frz ok ds _ n.2 r2)
end
mutual
theorem reads_noL {h : Heap} : ∀ (d : PyData) (v : Value) (as : List Addr), noL d = true → Reads h v d as → as = []
  | .none, _, _, _, r => by cases r; rfl
  | .bool b, _, _, _, r => by cases r; rfl
  | .int i, _, _, _, r => by cases r; rfl
  | .str x, _, _, _, r => by cases r; rfl
  | .list ds, _, _, n, _ => by cases n
  | .dict ds, _, _, n, _ => by cases n
  | .tuple ds, _, _, n, r => by
    cases r with
    | tuple _ _ _ r => exact readsAll_noL ds _ _ n r
theorem readsAll_noL {h : Heap} : ∀ (ds : List PyData) (vs : List Value) (as : List Addr), noLs ds = true → ReadsAll h vs ds as → as = []
  | [], _, _, _, r => by cases r; rfl
  | d :: ds, _, _, n, r => by
    cases r with
    | cons r1 r2 =>
      have n : (noL d && noLs ds) = true := n
      rw [Bool.and_eq_true] at n
      rw [reads_noL d _ _ n.1 r1, readsAll_noL ds _ _ n.2 r2]; rfl
end
end

/-! ### the call -/
/-- the lambda's names: its own parameter, captured ones, globals -/
structure LamN (sc scope : Scope) (p : Str) : Prop where
  kind : scope.kind = .function
  co : scope.isCoroutine = false
  gen : scope.isGenerator = false
  own : ∀ y ∈ scope.names, y.2 ≠ .cell
  par : scope.names.lookup p = some .local
  loc : ∀ y, scope.names.lookup y = some .local → y = p
  free : ∀ y ∈ scope.names, y.2 = .free → sc.names.lookup y.1 = some .cell ∨ sc.names.lookup y.1 = some .free
abbrev lamE (X : Cx) (scope : Scope) (L f c : Addr) : PySem.Env := PySem.W.envX (X.env.qual ++ "<lambda>") scope L f (.ref c) (cloFrom X.env.cells scope.names [])
def lamC (X : Cx) (A : Around) (s : Shared) (H : Hp) (N : List Str) (scope : Scope) (f c : Addr) : Cx where
  prog := X.prog
  w := X.w
  K := X.K
  mg := X.mg
  base := X.base
  A := A.deeper (lamE X scope s.heap.objs.size f c)
  N := N
  s_0 := s
  H_0 := H
  env := lamE X scope s.heap.objs.size f c
  outer := X.stack
  stack := lamE X scope s.heap.objs.size f c :: X.stack
  ex := []
  fn := fun _ => false
  calm := true
  pn := []
  xe := fun _ _ => False
section
variable {X : Cx} {pins : List (Addr × Obj)} {σ : L2.St} {H : Hp} {s s1 : Shared}
theorem LamN.has {scope : Scope} {p : Str} (L : LamN X.env.scope scope p) (ok : X.Ok) : ∀ y ∈ scope.names, y.2 = .free → ∃ c, X.env.cells.lookup y.1 = some c := fun y hy e => by
  rcases L.free y hy e with k | k
  · exact ok.has _ (.inl k)
  · exact ok.has _ (.inr k)
theorem clo_sub {cells : List (Str × Addr)} {ns : List (Str × NameKind)} (hf : ∀ y ∈ ns, y.2 = .free → ∃ c, cells.lookup y.1 = some c) {y : Str} {c : Addr} (e : (cloFrom cells ns []).lookup y = some c) : cells.lookup y = some c := by
  rcases cloFrom_mem (PySem.mem_of_lookup e) with hm | ⟨h1, h2⟩
  · cases hm
  · obtain ⟨c1, hc⟩ := hf _ h1 rfl
    have hc : cells.lookup y = some c1 := hc
    rw [hc] at h2
    rw [hc, h2]; rfl
theorem clo_has {cells : List (Str × Addr)} {ns : List (Str × NameKind)} {y : Str} (e : ns.lookup y = some .free) : ∃ c, (cloFrom cells ns []).lookup y = some c :=
  mem_lookup (cloFrom_has (cells := cells) (acc := []) (PySem.mem_of_lookup e))
theorem env0_kf (I : Inv X pins σ H s) (ks : KS (frs X.stack) exN s s1) {A : Around} (hA : A.frames = X.A.frames) : Env0 X.prog X.w X.K X.mg X.base A X.stack s1 (frzH s.heap H) := by
  have keepB : ∀ b o, X.base.get? b = some o → s1.heap.get? b = some o := fun b o e => by
    obtain ⟨q, _⟩ := I.bs b o e
    refine ks.kf.at_ q (fun z => z) fun z => ?_
    have lt : b < X.base.objs.size := Heap.lt_size e
    rcases List.mem_cons.mp (I.stkSub b z) with z | z
    · rw [z] at lt
      exact absurd (Nat.lt_of_lt_of_le lt (Nat.le_trans I.ok.bsz I.ok.above)) (Nat.lt_irrefl _)
    · exact I.ok.nofr e z
  refine ⟨hA.trans I.ok.frames, I.ok.mod, fun b o e => ⟨keepB b o e, frzH_none (I.bs b o e).2⟩, ?_, funFrames_kf ks.kf I.stack, fun b hb => frzH_none (I.stkFree b hb), fun b u e => ?_, ks.bare I.bare⟩
  · obtain ⟨m, ⟨o, _, _, ho, _⟩, _⟩ := I.loc
    obtain ⟨sl, q, _⟩ := ks.kf _ _ (fun z => z) ho
    exact Nat.le_of_lt (Nat.lt_of_le_of_lt (Nat.le_trans I.ok.bsz I.ok.above) (Heap.lt_size q))
  · obtain ⟨o, xs, hu, e'⟩ := frzH_inv e
    subst hu
    have nf : H b ≠ none → b ∉ frs X.stack := fun n z => n (I.stkFree b z)
    have tup : ObjOk X.prog X.w H s.heap b (.tup xs) ∧ s.heap.get? b = some o ∧ b ∉ frs X.stack := by
      rcases e' with ⟨e', ho⟩ | e'
      · exact ⟨I.hok b _ e', ho, nf (by rw [e']; exact Option.some_ne_none _)⟩
      · obtain ⟨h1, h2⟩ := I.hok b _ e'
        exact ⟨h2, h1, nf (by rw [e']; exact Option.some_ne_none _)⟩
    obtain ⟨⟨hz, its, rv, it⟩, ho, nb⟩ := tup
    have ho1 := ks.kf.at_ ho (fun z => z) nb
    refine ⟨ho1, hz, its, rv, ?_⟩
    obtain ⟨o2, e2, r⟩ := it
    have e2 : s.heap.get? b = some o2 := e2
    rw [ho] at e2
    cases e2
    exact ⟨o, ho1, r⟩
end

/-! ### from the call's start to its end -/
/-- what the captured slots hold -/
structure CapR (X : Cx) (σ : L2.St) (scope : Scope) (cs : List (Nat × Str)) (vs : List V) : Prop where
  len : cs.length = vs.length
  at_ : ∀ (j i : Nat) (y : Str) (v : V), cs[j]? = some (i, y) → vs[j]? = some v → X.N[i]? = some y ∧ σ[i]? = some (some v) ∧ scope.names.lookup y = some .free
section
variable {X : Cx} {pins : List (Addr × Obj)} {σ : L2.St} {H : Hp} {s s1 : Shared}
theorem inv_lam (I : Inv X pins σ H s) (ks : KS (frs X.stack) exN s s1) {A : Around} (hA : A.frames = X.A.frames) (hd : A.handled = none) {scope : Scope} {p : Str} (L : LamN X.env.scope scope p) {f c : Addr} {h1 : Heap} {tk : Nat} {cs : List (Nat × Str)} {vs : List V} {v : V} {u : Value}
    (cr : CapR X σ scope cs vs) (rv : RelV v u) (hns : h1.Ns s1.heap.objs.size fun y => ([(p, u)] : List (Str × Value)).reverse.lookup y) (kp : ∀ b o, s1.heap.get? b = some o → h1.get? b = some o) :
    Inv (lamC X A s1 (frzH s.heap H) (p :: cs.map (·.2)) scope f c) [] (some v :: vs.map some) (frzH s.heap H) { s1 with heap := h1, toks := tk } := by
  have e0 := env0_kf I ks hA
  have hfree := L.has I.ok
  have sub : ∀ {y c}, (cloFrom X.env.cells scope.names []).lookup y = some c → X.env.cells.lookup y = some c := fun e => clo_sub hfree e
  have noA : ∀ b : Addr, b ∉ (lamC X A s1 (frzH s.heap H) (p :: cs.map (·.2)) scope f c).ex := fun b z => absurd (show b ∈ ([] : List Addr) from z) (by simp)
  have cell1 : ∀ {c : Addr} {v : Option Value}, s.heap.IsCell c v → h1.IsCell c v := fun e => by
    obtain ⟨o, q1, q2⟩ := isCell_kf ks.kf e
    exact ⟨o, kp _ _ q1, q2⟩
  have look_self : (([(p, u)] : List (Str × Value)).reverse.lookup p) = some u := by simp
  refine ⟨⟨e0.mod, L.kind, rfl, rfl, Nat.le_refl _, fun y z c e1 e2 => I.ok.inj y z c (sub e1) (sub e2), fun y hy => ?_, fun y c z _ => ?_, fun _ => hd, Around.frames_deeper e0.frames, .inr ⟨rfl, rfl⟩, fun b z => absurd z (noA b), e0.bs, e0.bsz, fun b _ _ => noA b,
      fun b z => absurd z (noA b), e0.funs, e0.frf⟩,
    rfl, e0.bare, Un.kept kp, ⟨_, hns, fun i y w e1 e2 e3 => ?_⟩, fun y c e => ?_, e0.hok.fresh (Nat.le_refl _), fun y c e => ?_, fun q hq => absurd (show q ∈ ([] : List (Addr × Obj)) ++ [] from hq) (by simp), e0.hok.kept kp, ?_⟩
  · have hy : scope.names.lookup y = some .cell ∨ scope.names.lookup y = some .free := hy
    rcases hy with hy | hy
    · exact absurd rfl (L.own _ (PySem.mem_of_lookup hy))
    · exact clo_has hy
  · have z : false = true := z
    cases z
  · cases i with
    | zero =>
      have e1 : some p = some y := e1
      have e2 : some (some v) = some (some w) := e2
      cases e1
      cases e2
      exact ⟨u, rv, .inl ⟨L.par, look_self⟩⟩
    | succ j =>
      have e1 : (cs.map (·.2))[j]? = some y := e1
      have e2 : (vs.map some)[j]? = some (some w) := e2
      rw [List.getElem?_map] at e1 e2
      obtain ⟨⟨i, y'⟩, q1, q2⟩ := Option.map_eq_some_iff.mp e1
      have q2 : y' = y := q2
      subst q2
      obtain ⟨w', q3, q4⟩ := Option.map_eq_some_iff.mp e2
      have q4 : w' = w := Option.some.inj q4
      subst q4
      obtain ⟨n1, n2, n3⟩ := cr.at_ j i y' w' q1 q3
      obtain ⟨m, _, hl⟩ := I.loc
      have vis : Vis X.env.scope y' := (L.free _ (PySem.mem_of_lookup n3) rfl).elim (fun k => .inr (.inl k)) fun k => .inr (.inr k)
      obtain ⟨u', r', q⟩ := hl i y' w' n1 n2 vis
      obtain ⟨c2, hc2⟩ := clo_has (cells := X.env.cells) n3
      refine ⟨u', r', .inr ⟨.inr n3, c2, hc2, ?_⟩⟩
      have hc1 := sub hc2
      rcases q with ⟨k, _⟩ | ⟨_, c3, e', z⟩
      · have k : X.env.scope.names.lookup y' = some .local := k
        rcases L.free _ (PySem.mem_of_lookup n3) rfl with k2 | k2 <;> rw [show X.env.scope.names.lookup y' = _ from k2] at k <;> cases k
      · rw [hc1] at e'
        cases e'
        exact cell1 z
  · obtain ⟨w, z⟩ := I.cell y c (sub e)
    exact ⟨w, cell1 z⟩
  · exact frzH_none (I.freeC y c (sub e))
  · show (some v :: vs.map some).length = (p :: cs.map (·.2)).length
    rw [List.length_cons, List.length_cons, List.length_map, List.length_map, cr.len]
/-- a key's call -/
theorem lam_call (I : Inv X pins σ H s) (ks : KS (frs X.stack) exN s s1) {A : Around} (hA : A.frames = X.A.frames) (hd : A.handled = none) (hroom : A.depth < recursionLimit) {scope : Scope} {p : Str} {params : Arguments} {body : Expr} (L : LamN X.env.scope scope p)
    {f c : Addr} {pm ct : Value} {cs : List (Nat × Str)} {vs : List V} {v : V} {u : Value} {te : TE} {k : P} (cr : CapR X σ scope cs vs) (rv : RelV v u) (ho : s.heap.get? f = some (lamO X params body scope pm c ct)) (hco : H c = some (LamX.CodeO c (X.env.qual ++ "<lambda>"))) (nf : f ∉ frs X.stack)
    (hb : ∀ (q : Str) (cl : List (Str × Addr)) (pm cv ctv u : Value), bindArgs (PySem.W.kla_fn "<lambda>" q params body scope cl pm cv ctv) ⟨[u], []⟩ = pure [(p, u)])
    (hbody : PE (lamC X A s1 (frzH s.heap H) (p :: cs.map (·.2)) scope f c) body te) (ht : te (some v :: vs.map some) (frzH s.heap H) fun w H' => ∃ W', Rp X.K W' H' k w) (hk : noL k = true) :
    wpAny (model X.prog X.w) A (call (.ref f) [u]) (KeyF (frs X.stack) k s1) (fun _ _ => False) s1 := by
  have ho1 := ks.kf.at_ ho (fun z => z) nf
  obtain ⟨⟨oc, ws, t, hoc, hdc, hvc⟩, _, _⟩ := I.hok c _ hco
  have nc : c ∉ frs X.stack := fun z => by
    have := I.stkFree c z
    rw [hco] at this; cases this
  have hoc1 := ks.kf.at_ hoc (fun z => z) nc
  refine wpAny_call (codeAny_mono (R := fun r s2 => ∃ w, r = .ok (.ret w) ∧ KeyF (frs X.stack) k s1 w s2) ?_ fun r s2 hq => ?_)
  · refine PySem.W.kla_callFunE hroom ho1 rfl L.co L.gen rfl ⟨c, oc, ws, t, rfl, hoc1, hdc, hvc⟩ ?_
    rw [hb]
    refine wpAny_pure (wpAny_newFunctionEnv (fun y hy => L.own y hy) (fun y hy => by rw [List.mem_singleton.mp hy]; exact L.par) (fun h1 hns hsb => ?_) L.kind)
    have kp : ∀ b o, s1.heap.get? b = some o → h1.get? b = some o := fun b o e => hsb.extBut b o (Nat.ne_of_lt (Heap.lt_size e)) (Heap.get?_push_of_some _ e)
    have J := inv_lam (f := f) (c := c) (tk := s1.toks + ([(p, u)] : List (Str × Value)).length) I ks hA hd L cr rv hns kp
    refine ⟨J.nolimit, ?_⟩
    show codeAny _ _ (.expr body (lamE X scope s1.heap.objs.size f c)) _ _
    refine PySem.W.kla_codeExpr (wpAny_mono (hbody.run [] _ _ _ _ J ht) (fun w s2 hq => ?_) fun _ _ z => z.elim)
    obtain ⟨w', H', J', rw', W', q⟩ := hq
    refine ⟨w, rfl, ⟨J'.os, fun _ => J'.bare, fun b o _ e => ?_⟩, ?_⟩
    · have un : L2.Un (frs X.stack) [] (frzH s.heap H) H' s1.heap s2.heap := J'.base
      cases e2 : frzH s.heap H b with
      | none =>
        obtain ⟨sl, q2⟩ := un.any e e2 (by simp)
        refine ⟨sl, q2, fun nb => ?_⟩
        have q3 := un.keep b o e e2 nb (by simp)
        rw [q2] at q3
        have := congrArg Obj.slots (Option.some.inj q3)
        exact this
      | some hu =>
        obtain ⟨o1, xs, hz, _⟩ := frzH_inv e2
        rw [hz] at e2
        have a1 := un.frzs b o1 _ e2
        obtain ⟨b1, _⟩ := (env0_kf I ks hA).hok b _ e2
        obtain ⟨b2, _⟩ := J'.hok b _ a1
        rw [e] at b1
        cases b1
        exact ⟨o.slots, b2, fun _ => rfl⟩
    · obtain ⟨as, r⟩ := Dp.reads J' k w' w (Rp.dp _ _ q) rw'
      have := reads_noL k _ _ hk r
      subst this
      exact r
  · obtain ⟨w, rfl, q⟩ := hq
    exact q
end

/-! ### the rule -/
theorem FxE.made {X : Cx} {K : PySem.W.Frag} {fa : FT} {W : Wd} {ρ : Env} {σ : L2.St} {H H1 : Hp} {s1 : Shared} {params : Arguments} {body : Expr} {scope : Scope} {f : Addr} (rs : RS K fa W ρ σ H) (m : Made X fa.t params body scope H H1 s1 f) : FxE K fa W ρ σ H W ρ H1 := by
  have s : Stay W H W H1 := ⟨fun a o e _ nt => m.k a o e nt, fun _ w => .inl w, rs.dom⟩
  refine ⟨⟨rs.len, fun i x e => ?_, fun i l x e => ?_, rs.inj, fun a w => ?_, m.tab⟩, fun a o e _ nt => m.k a o e nt, fun _ _ x e => ⟨x, e⟩, fun _ _ x e => ⟨x, e⟩, fun _ w => w, fun _ w => .inl w, m.dm⟩
  · obtain ⟨v, e1, r⟩ := rs.val i x e
    exact ⟨v, e1, s.rpD r⟩
  · obtain ⟨a, e1, w, r⟩ := rs.own i l x e
    exact ⟨a, e1, w, s.rpO r fun o nt q => m.k a o q nt⟩
  · obtain ⟨o, e, mu⟩ := rs.dom a w
    exact ⟨o, m.k a o e (nt_mut mu), mu⟩
theorem caps_ok {X : Cx} {K : PySem.W.Frag} {fa : FT} {W : Wd} {ρ : Env} {σ : L2.St} {H : Hp} {scope : Scope} (rs : RS K fa W ρ σ H) : ∀ {cs : List (Nat × Str)} {xs : List P}, capsE ρ cs = some xs → (∀ q ∈ cs, X.N[q.1]? = some q.2 ∧ scope.names.lookup q.2 = some .free) →
    noLs xs = true ∧ ∃ vs, CapR X σ scope cs vs ∧ RpA K W H xs vs
  | [], xs, e, _ => by cases e; exact ⟨rfl, [], ⟨rfl, fun j i y v h => by simp at h⟩, .nil⟩
  | (i, y) :: cs, xs, e, hc => by
    unfold capsE at e
    split at e
    · rename_i x hx
      split at e
      · rename_i hn
        obtain ⟨ys, e1, e2⟩ := Option.map_eq_some_iff.mp e
        subst e2
        obtain ⟨n1, vs, cr, ra⟩ := caps_ok rs e1 fun q hq => hc q (List.mem_cons_of_mem _ hq)
        obtain ⟨v, hv, r⟩ := rs.val i _ hx
        obtain ⟨c1, c2⟩ := hc (i, y) List.mem_cons_self
        refine ⟨by show (noL x && noLs ys) = true; rw [hn, n1]; rfl, v :: vs, ⟨by rw [List.length_cons, List.length_cons, cr.len], fun j i' y' v' h1 h2 => ?_⟩, .cons r ra⟩
        cases j with
        | zero =>
          have h1 : some (i, y) = some (i', y') := h1
          have h2 : some v = some v' := h2
          cases h1
          cases h2
          exact ⟨c1, hv, c2⟩
        | succ j => exact cr.at_ j i' y' v' h1 h2
      · cases e
    · cases e
theorem keys_ok {b : Env → R RV} {cs : List P} : ∀ {ds ks : List P}, keysE b cs ds = some ks → ks.length = ds.length ∧ ∀ q ∈ ks.zip ds, noL q.1 = true ∧ noL q.2 = true ∧ ∃ ρ', b (.val (.d q.2) :: cs.map fun c => .val (.d c)) = .ok (.sh (.d q.1)) ρ'
  | [], ks, e => by cases e; exact ⟨rfl, fun q h => by simp at h⟩
  | x :: xs, ks, e => by
    unfold keysE at e
    split at e
    · rename_i k ρ' hb
      split at e
      · rename_i hn
        rw [Bool.and_eq_true] at hn
        obtain ⟨ks', e1, e2⟩ := Option.map_eq_some_iff.mp e
        subst e2
        obtain ⟨l1, l2⟩ := keys_ok e1
        refine ⟨by rw [List.length_cons, List.length_cons, l1], fun q hq => ?_⟩
        rw [List.zip_cons_cons] at hq
        rcases List.mem_cons.mp hq with rfl | hq
        · exact ⟨hn.2, hn.1, ρ', hb⟩
        · exact l2 q hq
      · cases e
    · cases e
theorem each_rel : ∀ {vs : List V} {us : List Value} {ps : List (P × P)}, Vals vs us → ps.length = vs.length → PySem.W.EachIs (fun (u : Value) (b : V × P × P) => RelV b.1 u) us (vs.zip ps)
  | _, _, [], .nil, _ => .nil
  | _, _, p :: ps, .cons r rs, h => .cons r (each_rel rs (by simpa using h))
theorem each_valsK : ∀ {us : List Value} {bs : List (V × P × P)}, PySem.W.EachIs (fun (u : Value) (b : V × P × P) => RelV b.1 u) us bs → Vals (bs.map (·.1)) us
  | _, _, .nil => .nil
  | _, _, .cons r rs => .cons r (each_valsK rs)
theorem rpA_zipK {K : PySem.W.Frag} {W : Wd} {H : Hp} : ∀ {ds ks : List P} {vs : List V}, RpA K W H ds vs → ∀ b ∈ vs.zip (ks.zip ds), Rp K W H b.2.2 b.1
  | _, [], [], .nil, b, hb => by simp at hb
  | _, _ :: _, [], .nil, b, hb => by simp at hb
  | _, [], _ :: _, .cons r rs, b, hb => by simp at hb
  | _, k :: ks, _ :: _, .cons r rs, b, hb => by
    rw [List.zip_cons_cons, List.zip_cons_cons] at hb
    rcases List.mem_cons.mp hb with rfl | hb
    · exact r
    · exact rpA_zipK rs b hb
theorem rpA_ofK {K : PySem.W.Frag} {W : Wd} {H : Hp} : ∀ {bs : List (V × P × P)}, (∀ b ∈ bs, Rp K W H b.2.2 b.1) → RpA K W H (bs.map (·.2.2)) (bs.map (·.1))
  | [], _ => .nil
  | b :: bs, h => .cons (h b List.mem_cons_self) (rpA_ofK fun c hc => h c (List.mem_cons_of_mem _ hc))
theorem rs_lam {K : PySem.W.Frag} {fa : FT} {xs : List P} {vs : List V} {H : Hp} (r : RpA K (fun _ => False) H xs vs) : RS K ⟨fa.f, []⟩ (fun _ => False) (xs.map fun c => .val (.d c)) (vs.map some) H := by
  have no : ∀ (i : Nat) (l : Bool) (x : D), (xs.map fun c => Sl.val (.d c))[i]? ≠ some (Sl.own l x) := fun i l x e => by
    rw [List.getElem?_map] at e
    obtain ⟨_, _, e2⟩ := Option.map_eq_some_iff.mp e
    cases e2
  refine ⟨by rw [List.length_map, List.length_map, r.length], fun i x e => ?_, fun i l x e => absurd e (no i l x), fun i j l l' x x' a e => absurd e (no i l x), fun _ w => w.elim, fun p hp => nomatch hp⟩
  rw [List.getElem?_map] at e
  obtain ⟨y, e1, e2⟩ := Option.map_eq_some_iff.mp e
  cases e2
  obtain ⟨v, e3, q⟩ := r.get e1
  exact ⟨v, by rw [List.getElem?_map, e3]; rfl, q⟩
section
variable {X : Cx} {fa : FT} {ca : FA} {Wx : WX} {a body : Expr} {pos p1 lpos kpos : Pos}
theorem ex_sortK {p : Str} {cs : List (Nat × Str)} {params : Arguments} {scope : Scope} {k : Nat} {q : Pr} {tb : Env → R RV} (hg : Gl X "sorted") (hm : X.mg "sorted" = none) (hv : bootBuiltins "sorted" = some (.builtin "sorted")) (M : MkL X fa.t) (hd0 : defaultsOf params X.env = ([], [])) (L : LamN X.env.scope scope p)
    (hb : ∀ (q : Str) (cl : List (Str × Addr)) (pm cv ctv u : Value), bindArgs (PySem.W.kla_fn "<lambda>" q params body scope cl pm cv ctv) ⟨[u], []⟩ = pure [(p, u)]) (hcs : ∀ q ∈ cs, X.N[q.1]? = some q.2 ∧ scope.names.lookup q.2 = some .free) (hr : Room (k + 1) X.A) (d : Der X fa ca Wx a q)
    (hbody : ∀ (s : Shared) (H : Hp) (f c : Addr), PE (lamC X X.A.in1.in1 s H (p :: cs.map (·.2)) scope f c) body (rd ⟨X.K, ⟨fa.f, []⟩, ca, fun _ _ _ _ => False⟩ tb)) :
    PE X (.Call (.Name "sorted" p1) [a] [⟨some "key", .Lambda params body scope lpos, kpos⟩] pos) (rd (cx X fa ca Wx) fun ρ => (q.v ρ).bind (sortKE cs tb)) := by
  refine ⟨fun pins s σ H Q I ⟨W, ρ, rs, h⟩ => ?_⟩
  refine wpAny_Call_Name_kw (ld_blt I hg hm hv ?_ (by decide) (by decide))
  have h1 : rd (cx X fa ca Wx) q.v σ H (fun v H1 => ∃ W1 ρ1 r, FxE X.K fa W ρ σ H W1 ρ1 H1 ∧ RpR X.K fa (Ex_ H) W1 ρ1 σ H1 r v ∧ Oc (cx X fa ca Wx) W ρ σ H Q (sortKE cs tb r ρ1)) := rd_then0 rs h fun W1 ρ1 H1 r v f1 q1 h1 => ⟨W1, ρ1, r, f1, q1, h1⟩
  refine PyProof.Rows.callWith_kw (thn ((pa_cons d.v pa_nil (plain_star d.sy [] _)).run pos pins s σ H (fun vs H1 => ∃ v, vs = [v] ∧ ∃ W1 ρ1 r, FxE X.K fa W ρ σ H W1 ρ1 H1 ∧ RpR X.K fa (Ex_ H) W1 ρ1 σ H1 r v ∧ Oc (cx X fa ca Wx) W ρ σ H Q (sortKE cs tb r ρ1)) I ?_) fun us s1 q1 => ?_) (by rw [plain_star d.sy [] _]; rfl) (by rw [plain_star d.sy [] _]; rfl)
  · obtain ⟨W', ρ', rs', o'⟩ := h1
    refine ⟨W', ρ', rs', ?_⟩
    cases e : q.v ρ' with
    | ok r ρ2 =>
      rw [e] at o'
      exact fun W2 v H2 f2 r2 => ⟨v, rfl, o' W2 v H2 f2 r2⟩
    | ex e' ρ2 => rw [e] at o'; exact o'
    | bad => rw [e] at o'; exact o'
  obtain ⟨vs, H1, I1, rv, v, rfl, W1, ρ1, r, f1, q1, o1⟩ := q1
  obtain ⟨u, rfl, ru⟩ := vals1 rv
  show wpAny _ _ (evalAll ((do let v ← eval (.Lambda params body scope lpos) X.env; standAt pos; pure v) :: [])) _ _ _
  refine wpAny_evalAll_cons (wpAny_bind (lam_made I1 M f1.rs.tab hd0 (L.has I.ok) fun f H2 s2 I2 md => wpAny_bind (wpAny_standAt (wpAny_pure (wpAny_evalAll_nil ?_)))))
  show wpAny _ _ (call (.builtin "sorted") [u] [(Str.ofString "key", .ref f)]) _ _ _
  unfold sortKE at o1
  cases e1 : (derefP ρ1 r).bind seqP with
  | none => rw [e1] at o1; exact o1.elim
  | some ds =>
    cases e2 : capsE ρ1 cs with
    | none => rw [e1, e2] at o1; exact o1.elim
    | some xs =>
      rw [e1, e2] at o1
      simp only at o1
      cases e3 : keysE tb xs ds with
      | none => rw [e3] at o1; exact o1.elim
      | some ks =>
        rw [e3] at o1
        simp only at o1
        by_cases hok : sortOk ks = true
        · rw [if_pos hok] at o1
          obtain ⟨x, ex, ey⟩ := Option.bind_eq_some_iff.mp e1
          have f2 := FxE.made f1.rs md
          have q2 := q1.pers f1.rs f2
          have ro := q2.ro f2.rs ex
          -- the items
          have seq : ∃ l vs its, v = .ref l ∧ RpA X.K W1 H2 ds vs ∧ vs.length ≤ sizeLine ∧ Vals vs its ∧ SeqIs s2.heap l its := by
            cases x with
            | list ys =>
              cases ey
              obtain ⟨l, vs, g1, g2, g3, g4⟩ := ro_lst ro
              obtain ⟨its, g5, g6, _⟩ := I2.list (.inl (.inl g2))
              exact ⟨l, vs, its, g1, g4, g3, g5, .inl g6.isList⟩
            | tuple ys =>
              cases ey
              obtain ⟨l, vs, g1, g2, g3, g4⟩ := ro_tup ro
              obtain ⟨its, g5, g6, _⟩ := I2.tuple g2
              exact ⟨l, vs, its, g1, g4, g3, g5, .inr g6⟩
            | _ => cases ey
          obtain ⟨l, vs, its, ev, ra, hz, rits, hseq⟩ := seq
          subst ev
          have ru' : u = Value.ref l := ru
          subst ru'
          obtain ⟨pm, c, ct, ho, hco⟩ := md.o
          obtain ⟨kl, kq⟩ := keys_ok e3
          obtain ⟨nx, cvs, cr, rc⟩ := caps_ok (X := X) (scope := scope) f2.rs e2 hcs
          obtain ⟨o1', o2', o3'⟩ := sortOk_ok hok
          have rl := ra.length
          have zl : (ks.zip ds).length = ds.length := by rw [List.length_zip, kl, Nat.min_self]
          have keyL : (vs.zip (ks.zip ds)).map (fun b => b.2.1) = ks := by
            have a1 : (vs.zip (ks.zip ds)).map Prod.snd = ks.zip ds := List.map_snd_zip (by omega)
            have a2 : (ks.zip ds).map Prod.fst = ks := List.map_fst_zip (by omega)
            calc (vs.zip (ks.zip ds)).map (fun b => b.2.1) = ((vs.zip (ks.zip ds)).map Prod.snd).map Prod.fst := by rw [List.map_map]; rfl
              _ = ks := by rw [a1, a2]
          refine kf_sorted (b := false) (fs := frs X.stack) (fun b : V × P × P => b.2.1) (fun c hc => ?_) hseq (each_rel rits (by rw [zl]; exact rl)) (by rw [keyL]; exact o1') (by rw [keyL]; exact o2') (by rw [List.length_zip, zl, ← rl, Nat.min_self, rl]; exact hz) (fun b hb => ?_) (ksk_s1 _ _) (fun _ => ksk_l1 _ _) (fun _ => ksk_t1 _ _)
            (fun w b rw' hbm s3 ks3 => ?_) fun s3 out c3 ks3 fresh hD len ea => ?_
          · have := I2.stkSub c hc
            rcases List.mem_cons.mp this with z | z
            · rw [z]; exact I2.lt
            · obtain ⟨_, o, ho', _⟩ := I2.ok.funs.mem z
              exact Nat.lt_of_lt_of_le (Heap.lt_size ho') I2.sz
          · have h1 : b.2.1 ∈ ks := by rw [← keyL]; exact List.mem_map.mpr ⟨b, hb, rfl⟩
            have h2 := depth_mem h1
            have h3 := hr.un
            omega
          · obtain ⟨w', kk, it⟩ := b
            have mem := List.of_mem_zip hbm
            obtain ⟨n1, n2, ρ', hkey⟩ := kq (kk, it) mem.2
            have rit : Rp X.K W1 H2 it w' := rpA_zipK ra _ hbm
            have r1 := hr.un
            have r2 := hr.dp
            refine lam_call I2 ks3 (A := X.A.in1.in1) rfl hr.hd (by show X.A.depth < recursionLimit; omega) L cr rw' ho hco md.nf hb (hbody _ _ _ _) ⟨fun _ => False, .val (.d it) :: xs.map (fun c => .val (.d c)), rs_lam (xs := it :: xs) (vs := w' :: cvs) (.cons (rp_frz I2.hok _ _ n2 rit) (rpA_frz I2.hok _ _ nx rc)), ?_⟩ n1
            rw [hkey]
            exact fun W' v' H' _ q => ⟨W', q⟩
          · have nD : H2 (s2.heap.objs.size + 1) = none := I2.hok.fresh (Nat.le_succ _)
            have perm : ((vs.zip (ks.zip ds)).mergeSort (PySem.W.dataLe false fun b => b.2.1)).Perm (vs.zip (ks.zip ds)) := List.mergeSort_perm _ _
            have lz : (((vs.zip (ks.zip ds)).mergeSort (PySem.W.dataLe false fun b => b.2.1)).map (·.1)).length ≤ sizeLine := by
              rw [List.length_map, perm.length_eq, List.length_zip, zl, ← rl, Nat.min_self, rl]; exact hz
            have trk : ∀ {b : Addr} {o : Obj}, H2 b ≠ none → s2.heap.get? b = some o → s3.heap.get? b = some o := fun {b o} n e => ks3.kf.at_ e (fun z => z) fun z => n (I2.stkFree b z)
            have un : L2.Un (frs X.stack) [] H2 (upd H2 (s2.heap.objs.size + 1) (.lst (((vs.zip (ks.zip ds)).mergeSort (PySem.W.dataLe false fun b => b.2.1)).map (·.1)))) s2.heap s3.heap := by
              refine ⟨fun b o e n nf _ => ks3.kf.at_ e (fun z => z) nf, fun b o e n _ _ => ?_, fun b o e n _ => ?_, fun b o e _ => ?_, fun b ys e => ?_, fun b o ys e => ?_, fun b ys e => ⟨#[], ?_⟩⟩
              · obtain ⟨sl, e4, _⟩ := ks3.kf b o (fun z => z) e
                exact ⟨sl, e4⟩
              · rw [upd_ne (fun z => by rw [z, fresh] at e; cases e)]; exact n
              · obtain ⟨sl, e4, _⟩ := ks3.kf b o (fun z => z) e
                exact ⟨_, e4⟩
              · rw [upd_ne (ne_of_none e nD)]; exact e
              · rw [upd_ne (ne_of_none e nD)]; exact e
              · rw [upd_ne (ne_of_none e nD), e]; simp
            have hok3 : HOk X.prog X.w (upd H2 (s2.heap.objs.size + 1) (.lst (((vs.zip (ks.zip ds)).mergeSort (PySem.W.dataLe false fun b => b.2.1)).map (·.1)))) s3.heap := fun b o e => by
              by_cases hb : b = s2.heap.objs.size + 1
              · subst hb
                rw [upd_same] at e
                cases e
                exact ⟨lz, out, c3, each_valsK ea, hD⟩
              · rw [upd_ne hb] at e
                refine (I2.hok b o e).stay (fun c o' hc e4 => trk ?_ e4) (fun c e4 => by rw [upd_ne (ne_of_none e4 nD)]; exact e4) fun c ys e4 => by rw [upd_ne (ne_of_none e4 nD)]; exact e4
                rcases hc with rfl | hc
                · rw [e]; exact Option.some_ne_none _
                · rw [hc]; exact Option.some_ne_none _
            refine I2.after ⟨.ref _, _, ks3.os, ks3.bare I2.bare, un, hok3, rfl, ?_⟩
            have fS := FxE.shrink rs f1
            have g2 := FxE.made fS.rs md
            have g3 := FxE.own (xs := ((vs.zip (ks.zip ds)).mergeSort (PySem.W.dataLe false fun b => b.2.1)).map (·.1)) g2.rs nD
            refine o1 _ _ _ ((fS.trans g2).trans g3) ⟨_, rfl, .inr rfl, fun z => (fS.trans g2).dm _ z nD, Ow.not g2.rs nD, _, upd_same, lz, ?_⟩
            have e5 : sortKs ks ds = ((vs.zip (ks.zip ds)).mergeSort (PySem.W.dataLe false fun b => b.2.1)).map (·.2.2) := by
              have a1 : (vs.zip (ks.zip ds)).map Prod.snd = ks.zip ds := List.map_snd_zip (by omega)
              have a3 := List.map_mergeSort (f := Prod.snd) (r := PySem.W.dataLe false fun b : V × P × P => b.2.1) (s := PySem.W.dataLe false (Prod.fst : P × P → P)) (l := vs.zip (ks.zip ds)) fun a _ b _ => rfl
              rw [a1] at a3
              rw [sortKs_eq, ← a3, List.map_map]; rfl
            rw [e5]
            refine Stay.rpA (W := W1) (H := H2) ⟨fun b o e _ _ => grow_upd nD b o e, fun b z => z.elim (fun z => .inl (f1.wm b z)) fun z => .inr (by rw [z]; exact nD), f2.rs.dom⟩ (rpA_ofK fun b hb => rpA_zipK ra b (perm.mem_iff.mp hb))
        · rw [if_neg hok] at o1; exact o1.elim
end
end Mp

set_option maxRecDepth 100000
set_option maxHeartbeats 4000000
/-! Mp9: what is walked, targets, list comprehensions. -/
namespace Mp
open PySem PySem.Spec PyProof.Rows L2 RZ

/-! ### what is walked -/
def ItOk (K : PySem.W.Frag) (fa : FT) (W : Wd) (H : Hp) (J : It) (items : List D) : Prop :=
  items.length ≤ 16777216 ∧ ∀ W2 H2, Stay W H W2 H2 → Dom W2 H2 → (∀ (i : Nat) (x : D), items[i]? = some x → J.go i H2 ∧ ∀ v H3, J.yld i H2 v H3 → (∀ a o, H2 a = some o → H3 a = some o) ∧ RpD K fa W2 H3 x v) ∧
    ∀ i, items.length ≤ i → J.stop i H2
def OcI (C : Ctx) (W : Wd) (ρ : Env) (σ : L2.St) (H : Hp) (Q : List D → Env → Wd → It → Hp → Prop) : R (List D) → Prop
  | .ok l ρ' => ∀ W' J H', FxE C.K C.fa W ρ σ H W' ρ' H' → ItOk C.K C.fa W' H' J l → Q l ρ' W' J H'
  | .ex e ρ' => ∀ c d W' H', FxE C.K C.fa W ρ σ H W' ρ' H' → RpX C.ca e c d H' → C.Wx c d σ H'
  | .bad => False
def rdI (C : Ctx) (f : Env → R (List D)) : TI := fun σ H R => ∃ W ρ, RS C.K C.fa W ρ σ H ∧ OcI C W ρ σ H (fun _ _ _ J H' => R J H') (f ρ)

theorem PI.mono {X : Cx} {tg e : Expr} {t t' : TI} (h : PI X tg e t) (hi : ∀ σ H Q, t' σ H Q → t σ H Q) : PI X tg e t' := ⟨fun pins s σ H Q I q => h.run pins s σ H Q I (hi _ _ _ q)⟩
theorem PI.or {X : Cx} {tg e : Expr} {t t' : TI} (h : PI X tg e t) (h' : PI X tg e t') : PI X tg e (fun σ H Q => t σ H Q ∨ t' σ H Q) := ⟨fun pins s σ H Q I q => q.elim (h.run pins s σ H Q I) (h'.run pins s σ H Q I)⟩
section
variable {K : PySem.W.Frag} {fa : FT} {W : Wd} {H : Hp}
theorem itOk_list {a : Addr} {xs : List V} {ds : List P} (h : H a = some (.lst xs)) (n : ¬ W a) (z : xs.length ≤ sizeLine) (r : RpA K W H ds xs) : ItOk K fa W H (Itl K a) (ds.map D.d) := by
  have hl := r.length
  refine ⟨by rw [List.length_map]; exact le_line (by omega), fun W2 H2 st dm => ⟨fun i x e => ?_, fun i hi => ⟨xs, .inl (.inl (st.k _ _ h n nt_lst)), by rw [List.length_map] at hi; omega⟩⟩⟩
  rw [List.getElem?_map] at e
  obtain ⟨d, e1, e2⟩ := Option.map_eq_some_iff.mp e
  subst e2
  obtain ⟨v, e3, r3⟩ := r.get e1
  refine ⟨⟨xs, v, .inl (.inl (st.k _ _ h n nt_lst)), e3⟩, fun v' H3 hy => ?_⟩
  obtain ⟨e4, hy⟩ := hy
  subst e4
  have := hy xs (.inl (.inl (st.k _ _ h n nt_lst)))
  rw [e3] at this
  cases this
  exact ⟨fun _ _ e => e, st.rp r3⟩
theorem itOk_tup {a : Addr} {xs : List V} {ds : List D} (h : SqT K H a xs) (z : xs.length ≤ sizeLine) (hl : ds.length = xs.length) (r : ∀ (i : Nat) (x : D), ds[i]? = some x → ∃ v, xs[i]? = some v ∧ RpD K fa W H x v) : ItOk K fa W H (Itt K a) ds := by
  refine ⟨le_line (by omega), fun W2 H2 st dm => ⟨fun i x e => ?_, fun i hi => ⟨xs, st.sqT h, by omega⟩⟩⟩
  obtain ⟨v, e3, r3⟩ := r i x e
  refine ⟨⟨xs, v, st.sqT h, e3⟩, fun v' H3 hy => ?_⟩
  obtain ⟨e4, hy⟩ := hy
  subst e4
  have := hy xs (st.sqT h)
  rw [e3] at this
  cases this
  exact ⟨fun _ _ e => e, st.rpD r3⟩
theorem itOk_range (lo : Int) (n : Nat) (hn : n ≤ 16777216) : ItOk K fa W H (Itr lo n) ((List.range n).map fun (i : Nat) => D.d (.int (lo + (i : Int)))) := by
  refine ⟨by rw [List.length_map, List.length_range]; exact hn, fun W2 H2 st dm => ⟨fun i x e => ?_, fun i hi => by rw [List.length_map, List.length_range] at hi; exact hi⟩⟩
  rw [List.getElem?_map] at e
  obtain ⟨d, e1, e2⟩ := Option.map_eq_some_iff.mp e
  subst e2
  have hi : i < n := by
    have := (List.getElem?_eq_some_iff.mp e1).1
    rwa [List.length_range] at this
  have : d = i := by
    rw [List.getElem?_range hi] at e1
    exact (Option.some.inj e1).symm
  subst this
  refine ⟨hi, fun v' H3 hy => ?_⟩
  obtain ⟨e4, e5⟩ := hy
  subst e4 e5
  exact ⟨fun _ _ e => e, .int _⟩
theorem zipL_get : ∀ {xs ys : List P} {i : Nat} {z : D}, (zipL xs ys)[i]? = some z → ∃ x y, xs[i]? = some x ∧ ys[i]? = some y ∧ z = .d (.tuple [x, y])
  | [], ys, i, z, e => by unfold zipL at e; simp at e
  | x :: xs, [], i, z, e => by unfold zipL at e; simp at e
  | x :: xs, y :: ys, 0, z, e => by
    unfold zipL at e
    simp at e
    exact ⟨x, y, rfl, rfl, e.symm⟩
  | x :: xs, y :: ys, i + 1, z, e => by
    unfold zipL at e
    obtain ⟨a, b, h1, h2, h3⟩ := zipL_get (xs := xs) (ys := ys) (i := i) (z := z) (by simpa using e)
    exact ⟨a, b, by simpa using h1, by simpa using h2, h3⟩
theorem zipL_len : ∀ (xs ys : List P), (zipL xs ys).length = min xs.length ys.length
  | [], ys => by unfold zipL; simp
  | x :: xs, [] => by unfold zipL; simp
  | x :: xs, y :: ys => by
    unfold zipL
    have := zipL_len xs ys
    simp only [List.length_cons, this]
    omega
theorem rp_pair {W2 : Wd} {H2 : Hp} {x y : P} {v u : V} {T : Addr} (dm : Dom W2 H2) (h1 : Rp K W2 H2 x v) (h2 : Rp K W2 H2 y u) (n : H2 T = none) : Rp K W2 (upd H2 T (.tup [v, u])) (.tuple [x, y]) (.ref T) :=
  (rp_newTup dm (.cons h1 (.cons h2 .nil)) (by show 2 ≤ sizeLine; rw [sizeLine_eq]; decide) n).2
theorem itOk_zip {a b : Addr} {xs ys : List V} {ds es : List P} (h : H a = some (.lst xs)) (n : ¬ W a) (z : xs.length ≤ sizeLine) (r : RpA K W H ds xs) (h' : H b = some (.lst ys)) (n' : ¬ W b) (r' : RpA K W H es ys) : ItOk K fa W H (Itz K a b) (zipL ds es) := by
  have hl := r.length
  have hl' := r'.length
  have hz := le_line z
  refine ⟨by rw [zipL_len]; omega, fun W2 H2 st dm => ⟨fun i x e => ?_, fun i hi => ⟨xs, ys, .inl (.inl (st.k _ _ h n nt_lst)), .inl (.inl (st.k _ _ h' n' nt_lst)), by rw [zipL_len] at hi; omega⟩⟩⟩
  obtain ⟨x1, y1, e1, e2, e3⟩ := zipL_get e
  obtain ⟨v, e4, r4⟩ := r.get e1
  obtain ⟨u, e5, r5⟩ := r'.get e2
  refine ⟨⟨xs, ys, v, u, .inl (.inl (st.k _ _ h n nt_lst)), .inl (.inl (st.k _ _ h' n' nt_lst)), e4, e5⟩, fun v' H3 hy => ?_⟩
  obtain ⟨T, v2, u2, ev, nT, eH, f1, f2⟩ := hy
  have g1 := f1 xs (.inl (.inl (st.k _ _ h n nt_lst)))
  have g2 := f2 ys (.inl (.inl (st.k _ _ h' n' nt_lst)))
  rw [e4] at g1; cases g1
  rw [e5] at g2; cases g2
  subst ev eH e3
  exact ⟨grow_upd nT, rp_pair dm (st.rp r4) (st.rp r5) nT⟩
theorem itOk_zipT {a b : Addr} {xs ys : List V} {ds es : List P} (h : SqT K H a xs) (z : xs.length ≤ sizeLine) (r : RpA K W H ds xs) (h' : SqT K H b ys) (r' : RpA K W H es ys) : ItOk K fa W H (ItzT K a b) (zipL ds es) := by
  have hl := r.length
  have hl' := r'.length
  have hz := le_line z
  refine ⟨by rw [zipL_len]; omega, fun W2 H2 st dm => ⟨fun i x e => ?_, fun i hi => ⟨xs, ys, st.sqT h, st.sqT h', by rw [zipL_len] at hi; omega⟩⟩⟩
  obtain ⟨x1, y1, e1, e2, e3⟩ := zipL_get e
  obtain ⟨v, e4, r4⟩ := r.get e1
  obtain ⟨u, e5, r5⟩ := r'.get e2
  refine ⟨⟨xs, ys, v, u, st.sqT h, st.sqT h', e4, e5⟩, fun v' H3 hy => ?_⟩
  obtain ⟨T, v2, u2, ev, nT, eH, f1, f2⟩ := hy
  have g1 := f1 xs (st.sqT h)
  have g2 := f2 ys (st.sqT h')
  rw [e4] at g1; cases g1
  rw [e5] at g2; cases g2
  subst ev eH e3
  exact ⟨grow_upd nT, rp_pair dm (st.rp r4) (st.rp r5) nT⟩
theorem enumL_get : ∀ {xs : List P} {n i : Nat} {z : D}, (enumL n xs)[i]? = some z → ∃ x, xs[i]? = some x ∧ z = .d (.tuple [.int ((n + i : Nat) : Int), x])
  | [], n, i, z, e => by unfold enumL at e; simp at e
  | x :: xs, n, 0, z, e => by
    unfold enumL at e
    simp at e
    exact ⟨x, rfl, e.symm⟩
  | x :: xs, n, i + 1, z, e => by
    unfold enumL at e
    obtain ⟨a, h1, h2⟩ := enumL_get (xs := xs) (n := n + 1) (i := i) (z := z) (by simpa using e)
    refine ⟨a, by simpa using h1, ?_⟩
    rw [h2]
    have : n + 1 + i = n + (i + 1) := by omega
    rw [this]
theorem enumL_len : ∀ (xs : List P) (n : Nat), (enumL n xs).length = xs.length
  | [], n => by unfold enumL; simp
  | x :: xs, n => by unfold enumL; simp [enumL_len xs]
theorem itOk_enum {a : Addr} {xs : List V} {ds : List P} (h : H a = some (.lst xs)) (n : ¬ W a) (z : xs.length ≤ sizeLine) (r : RpA K W H ds xs) : ItOk K fa W H (Ite K a) (enumL 0 ds) := by
  have hl := r.length
  have hz := le_line z
  refine ⟨by rw [enumL_len]; omega, fun W2 H2 st dm => ⟨fun i x e => ?_, fun i hi => ⟨xs, .inl (.inl (st.k _ _ h n nt_lst)), by rw [enumL_len] at hi; omega⟩⟩⟩
  obtain ⟨x1, e1, e3⟩ := enumL_get e
  obtain ⟨v, e4, r4⟩ := r.get e1
  refine ⟨⟨xs, v, .inl (.inl (st.k _ _ h n nt_lst)), e4⟩, fun v' H3 hy => ?_⟩
  obtain ⟨T, v2, ev, nT, eH, f1⟩ := hy
  have g1 := f1 xs (.inl (.inl (st.k _ _ h n nt_lst)))
  rw [e4] at g1; cases g1
  subst ev eH e3
  refine ⟨grow_upd nT, ?_⟩
  rw [Nat.zero_add]
  exact rp_pair dm (.int _) (st.rp r4) nT
end

section
variable {X : Cx} {fa : FT} {ca : FA} {Wx : WX} {a b c tg : Expr} {pos p : Pos}
theorem rd_thenI {C : Ctx} {W : Wd} {ρ : Env} {σ : L2.St} {H : Hp} {QI : List D → Env → Wd → It → Hp → Prop} {f : Env → R RV} {k : RV → Env → R (List D)} {Q' : VK} (rs : RS C.K C.fa W ρ σ H) (h : OcI C W ρ σ H QI ((f ρ).bind k))
    (hk : ∀ W1 ρ1 H1 r v, FxE C.K C.fa W ρ σ H W1 ρ1 H1 → RpR C.K C.fa (Ex_ H) W1 ρ1 σ H1 r v → OcI C W ρ σ H QI (k r ρ1) → Q' v H1) : rd C f σ H Q' := by
  refine ⟨W, ρ, rs, ?_⟩
  cases e : f ρ with
  | ok r ρ' =>
    rw [e] at h
    exact fun W' v H' g q => hk W' ρ' H' r v g q h
  | ex e' ρ' =>
    rw [e] at h
    exact h
  | bad =>
    rw [e] at h
    exact h
theorem OcI.step {C : Ctx} {W W1 : Wd} {ρ ρ1 : Env} {σ : L2.St} {H H1 : Hp} {Q : List D → Env → Wd → It → Hp → Prop} {r : R (List D)} (f : FxE C.K C.fa W ρ σ H W1 ρ1 H1) (h : OcI C W ρ σ H Q r) : OcI C W1 ρ1 σ H1 Q r := by
  cases r with
  | ok r ρ' => exact fun W' J H' g q => h W' J H' (f.trans g) q
  | ex e ρ' => exact fun c d W' H' g q => h c d W' H' (f.trans g) q
  | bad => exact h
theorem rd_thenI2 {C : Ctx} {W W1 : Wd} {ρ ρ1 : Env} {σ : L2.St} {H H1 : Hp} {QI : List D → Env → Wd → It → Hp → Prop} {f : Env → R RV} {k : RV → Env → R (List D)} {Q' : VK} (f1 : FxE C.K C.fa W ρ σ H W1 ρ1 H1) (h : OcI C W ρ σ H QI ((f ρ1).bind k))
    (hk : ∀ W2 ρ2 H2 r v, FxE C.K C.fa W1 ρ1 σ H1 W2 ρ2 H2 → RpR C.K C.fa (Ex_ H1) W2 ρ2 σ H2 r v → OcI C W ρ σ H QI (k r ρ2) → Q' v H2) : rd C f σ H1 Q' := by
  refine ⟨W1, ρ1, f1.rs, ?_⟩
  cases e : f ρ1 with
  | ok r ρ' =>
    rw [e] at h
    exact fun W' v H' g q => hk W' ρ' H' r v g q h
  | ex e' ρ' =>
    rw [e] at h
    exact fun c d W' H' g q => h c d W' H' (f1.trans g) q
  | bad =>
    rw [e] at h
    exact h
/-- a result as a value, what is new let go -/
theorem RpR.out {K : PySem.W.Frag} {W W1 : Wd} {ρ ρ1 : Env} {σ : L2.St} {H H1 : Hp} {r : RV} {v : V} {x : D} (rs : RS K fa W ρ σ H) (f : FxE K fa W ρ σ H W1 ρ1 H1) (h : RpR K fa (Ex_ H) W1 ρ1 σ H1 r v) (e : shD r = some x) : RpD K fa W H1 x v := by
  cases r with
  | sh y => cases e; exact RpD.sub h f.wm f.rs.dom
  | fr y =>
    cases e
    obtain ⟨a, ea, w, n, o, r⟩ := h
    subst ea
    exact r.give (fun z => n (rs.ex a z)) f.wm f.rs.dom
  | br j => cases e
theorem it_seq {ta : Env → R RV} (ha : PE X a (rd (cx X fa ca Wx) ta)) : PI X tg a (rdI (cx X fa ca Wx) fun ρ => (ta ρ).bind seqI) := by
  refine PI.mono (PI.or (pi_list ha) (pi_tup ha)) fun σ H R ⟨W, ρ, rs, h⟩ => ?_
  have h : OcI (cx X fa ca Wx) W ρ σ H (fun _ _ _ J H' => R J H') ((ta ρ).bind seqI) := h
  cases e : ta ρ with
  | ex e' ρ1 => rw [e] at h; exact .inl ⟨W, ρ, rs, by rw [e]; exact h⟩
  | bad => rw [e] at h; exact h.elim
  | ok r ρ1 =>
    rw [e] at h
    have h : OcI (cx X fa ca Wx) W ρ σ H (fun _ _ _ J H' => R J H') (seqI r ρ1) := h
    unfold seqI at h
    cases es : shD r with
    | none => rw [es] at h; exact h.elim
    | some x =>
      rw [es] at h
      simp only at h
      cases x with
      | d x =>
        cases x with
        | list ds =>
          refine .inl ⟨W, ρ, rs, ?_⟩
          rw [e]
          intro W1 v H1 f1 q1
          have o : Rp X.K W H1 (.list ds) v := q1.out rs f1 es
          cases o with
          | lst h1 h2 h3 h4 => exact ⟨_, rfl, ⟨_, .inl (.inl h1)⟩, h W _ H1 (FxE.shrink rs f1) (itOk_list h1 h2 h3 h4)⟩
        | tuple ds =>
          refine .inr ⟨W, ρ, rs, ?_⟩
          rw [e]
          intro W1 v H1 f1 q1
          have o : Rp X.K W H1 (.tuple ds) v := q1.out rs f1 es
          cases o with
          | tup h1 h2 h3 =>
            refine ⟨_, rfl, ⟨_, h1⟩, h W _ H1 (FxE.shrink rs f1) (itOk_tup h1 h2 (by rw [List.length_map]; exact h3.length) fun i x ex => ?_)⟩
            rw [List.getElem?_map] at ex
            obtain ⟨d, e1, e2⟩ := Option.map_eq_some_iff.mp ex
            subst e2
            exact h3.get e1
        | _ => exact h.elim
      | fns is =>
        refine .inr ⟨W, ρ, rs, ?_⟩
        rw [e]
        intro W1 v H1 f1 q1
        obtain ⟨a, ea, h1, h2⟩ := (show RpD X.K fa W H1 (.fns is) v from q1.out rs f1 es)
        refine ⟨a, ea, ⟨_, h1⟩, h W _ H1 (FxE.shrink rs f1) (itOk_tup h1 (by rw [List.length_map]; exact h2) (by rw [List.length_map, List.length_map]) fun i x ex => ?_)⟩
        rw [List.getElem?_map] at ex
        obtain ⟨d, e1, e2⟩ := Option.map_eq_some_iff.mp ex
        subst e2
        exact ⟨V.ref (fa d), by rw [List.getElem?_map, e1]; rfl, rfl⟩
      | _ => exact h.elim
theorem OcI.rngI {C : Ctx} {W W0 W0' W1 : Wd} {ρ ρ1 : Env} {σ : L2.St} {H H1 : Hp} {R : It → Hp → Prop} {r s : RV} {v u : V} (rs : RS C.K C.fa W ρ σ H) (f : FxE C.K C.fa W ρ σ H W1 ρ1 H1) (qr : RpR C.K C.fa W0 W1 ρ1 σ H1 r v ∨ (r = shP (.int 0) ∧ v = .int 0)) (qs : RpR C.K C.fa W0' W1 ρ1 σ H1 s u)
    (h : OcI C W ρ σ H (fun _ _ _ J H' => R J H') (Mp.rngI r s ρ1)) : ∃ i j : Int, v = .int i ∧ u = .int j ∧ (-(2 ^ 62) ≤ i ∧ i < 2 ^ 62 ∧ -(2 ^ 62) ≤ j ∧ j < 2 ^ 62) ∧ R (Itr i (j - i).toNat) H1 := by
  unfold Mp.rngI at h
  have ro1 : ∀ i : Int, derefP ρ1 r = some (.int i) → v = .int i := fun i e => by
    rcases qr with q | ⟨q1, q2⟩
    · exact ro_int (q.ro f.rs e)
    · subst q1 q2
      cases e; rfl
  cases e1 : derefP ρ1 r with
  | none => rw [e1] at h; exact h.elim
  | some x =>
    cases e2 : derefP ρ1 s with
    | none => rw [e1, e2] at h; cases x <;> exact h.elim
    | some y =>
      rw [e1, e2] at h
      cases x with
      | int i =>
        cases y with
        | int j =>
          simp only at h
          split at h
          · rename_i hz
            simp only [Bool.and_eq_true, smallR, decide_eq_true_eq] at hz
            obtain ⟨⟨⟨a1, a2⟩, a3, a4⟩, a5⟩ := hz
            exact ⟨i, j, ro1 i e1, ro_int (qs.ro f.rs e2), ⟨by omega, by omega, by omega, by omega⟩, h W1 _ H1 f (itOk_range i _ a5)⟩
          · exact h.elim
        | _ => exact h.elim
      | _ => cases y <;> exact h.elim
theorem it_rng {q : Pr} (hg : Gl X "range") (hm : X.mg "range" = none) (d : Der X fa ca Wx a q) : PI X tg (.Call (.Name "range" p) [a] [] pos) (rdI (cx X fa ca Wx) fun ρ => (q.v ρ).bind fun r ρ1 => rngI (shP (.int 0)) r ρ1) := by
  refine PI.mono (pi_range1 hg hm (pa_cons d.v pa_nil (plain_star d.sy [] _)) (plain_star d.sy [] _)) fun σ H R ⟨W, ρ, rs, h⟩ => ?_
  refine rd_thenI rs h fun W1 ρ1 H1 r v f1 q1 h1 => ?_
  obtain ⟨i, j, e1, e2, b, q⟩ := OcI.rngI (v := .int 0) (W0 := W) (W0' := Ex_ H) rs f1 (.inr ⟨rfl, rfl⟩) q1 h1
  cases e1
  rw [Int.sub_zero] at q
  exact ⟨j, by rw [e2], b.2.2.1, b.2.2.2, q⟩
theorem it_rng2 {q q' : Pr} (hg : Gl X "range") (hm : X.mg "range" = none) (d : Der X fa ca Wx a q) (d' : Der X fa ca Wx b q') : PI X tg (.Call (.Name "range" p) [a, b] [] pos) (rdI (cx X fa ca Wx) fun ρ => (q.v ρ).bind fun r ρ1 => (q'.v ρ1).bind fun s ρ2 => rngI r s ρ2) := by
  refine PI.mono (pi_range2 hg hm (pa_cons d.v (pa_cons d'.v pa_nil (plain_star d'.sy [] _)) (plain_star d.sy _ _)) (by rw [plain_star d.sy, plain_star d'.sy]; rfl) (plain_star d'.sy [] _)) fun σ H R ⟨W, ρ, rs, h⟩ => ?_
  refine rd_thenI rs h fun W1 ρ1 H1 r v f1 q1 h1 => rd_thenI f1.rs (h1.step f1) fun W2 ρ2 H2 s u f2 q2 h2 => ?_
  obtain ⟨i, j, e1, e2, b, q⟩ := OcI.rngI f1.rs f2 (.inl (q1.pers f1.rs f2)) q2 h2
  exact ⟨i, j, by rw [e1, e2], b, q⟩
theorem itOk_range3 {K : PySem.W.Frag} {fa : FT} {W : Wd} {H : Hp} (lo c : Int) (n : Nat) (hn : n ≤ 16777216) : ItOk K fa W H (Itc lo c n) ((List.range n).map fun (i : Nat) => D.d (.int (lo + (i : Int) * c))) := by
  refine ⟨by rw [List.length_map, List.length_range]; exact hn, fun W2 H2 st dm => ⟨fun i x e => ?_, fun i hi => by rw [List.length_map, List.length_range] at hi; exact hi⟩⟩
  rw [List.getElem?_map] at e
  obtain ⟨d, e1, e2⟩ := Option.map_eq_some_iff.mp e
  subst e2
  have hi : i < n := by
    have := (List.getElem?_eq_some_iff.mp e1).1
    rwa [List.length_range] at this
  rw [List.getElem?_range hi] at e1
  cases e1
  refine ⟨hi, fun v' H3 hy => ?_⟩
  obtain ⟨e4, e5⟩ := hy
  subst e4 e5
  exact ⟨fun _ _ e => e, .int _⟩
theorem it_rng3 {q q' q'' : Pr} (hg : Gl X "range") (hm : X.mg "range" = none) (d : Der X fa ca Wx a q) (d' : Der X fa ca Wx b q') (d'' : Der X fa ca Wx c q'') : PI X tg (.Call (.Name "range" p) [a, b, c] [] pos) (rdI (cx X fa ca Wx) fun ρ => (q.v ρ).bind fun r ρ1 => (q'.v ρ1).bind fun s ρ2 => (q''.v ρ2).bind fun t ρ3 => rng3I r s t ρ3) := by
  refine PI.mono (pi_range3 hg hm (pa_cons d.v (pa_cons d'.v (pa_cons d''.v pa_nil (plain_star d''.sy [] _)) (plain_star d'.sy _ _)) (plain_star d.sy _ _)) (plain_star d.sy _ _) (star_all (es := [b, c]) pos (by rw [List.all_cons, List.all_cons, d'.sy, d''.sy]; rfl))) fun σ H R ⟨W, ρ, rs, h⟩ => ?_
  refine rd_thenI rs h fun W1 ρ1 H1 r v f1 q1 h1 => rd_thenI2 f1 h1 fun W2 ρ2 H2 s u f2 q2 h2 => rd_thenI2 (f1.trans f2) h2 fun W3 ρ3 H3 t w f3 q3 h3 => ?_
  have q1' := (q1.pers f1.rs f2).pers f2.rs f3
  have q2' := q2.pers f2.rs f3
  unfold rng3I at h3
  cases e1 : derefP ρ3 r with
  | none => rw [e1] at h3; exact h3.elim
  | some x =>
    cases e2 : derefP ρ3 s with
    | none => rw [e1, e2] at h3; cases x <;> exact h3.elim
    | some y =>
      cases e3 : derefP ρ3 t with
      | none => rw [e1, e2, e3] at h3; cases x <;> cases y <;> exact h3.elim
      | some z =>
        rw [e1, e2, e3] at h3
        cases x <;> first | exact h3.elim | skip
        cases y <;> first | exact h3.elim | skip
        cases z <;> first | exact h3.elim | skip
        rename_i i j k
        simp only at h3
        split at h3
        · rename_i hz
          exact ⟨i, j, k, _, by rw [ro_int (q1'.ro f3.rs e1), ro_int (q2'.ro f3.rs e2), ro_int (q3.ro f3.rs e3)], ⟨hz.1, hz.2.1, hz.2.2.1, (Int.toNat_of_nonneg hz.2.2.2.1).symm⟩, h3 W3 _ H3 ((f1.trans f2).trans f3) (itOk_range3 i k _ (by have := hz.2.2.2; omega))⟩
        · exact h3.elim
theorem it_zip {q q' : Pr} {elts : List Expr} {kk : Nat} {tpos : Pos} (hg : Gl X "zip") (hm : X.mg "zip" = none) (d : Der X fa ca Wx a q) (d' : Der X fa ca Wx b q') : PI X (.Tuple elts kk tpos) (.Call (.Name "zip" p) [a, b] [] pos) (rdI (cx X fa ca Wx) fun ρ => (q.v ρ).bind fun r ρ1 => (q'.v ρ1).bind fun s ρ2 => zipI r s ρ2) := by
  refine PI.mono (pi_zipA hg hm (pa_cons d.v (pa_cons d'.v pa_nil (plain_star d'.sy [] _)) (plain_star d.sy _ _)) (plain_star d.sy _ _) (star_all pos (by rw [List.all_cons, d'.sy]; rfl))) fun σ H R ⟨W, ρ, rs, h⟩ => ?_
  refine rd_thenI rs h fun W1 ρ1 H1 r v f1 q1 h1 => rd_thenI2 f1 h1 fun W2 ρ2 H2 s u f2 q2 h2 => ?_
  have f := f1.trans f2
  have q1' := q1.pers f1.rs f2
  have q2' := q2.base f1.dm
  unfold zipI at h2
  cases e1 : shD r with
  | none => rw [e1] at h2; exact h2.elim
  | some x =>
    cases e2 : shD s with
    | none => rw [e1, e2] at h2; cases x <;> first | exact h2.elim | (rename_i z; cases z <;> exact h2.elim)
    | some y =>
      rw [e1, e2] at h2
      have o1 := q1'.out rs f e1
      have o2 := q2'.out rs f e2
      cases x with
      | d x =>
        cases y with
        | d y =>
          cases x with
          | list ds =>
            cases y with
            | list es =>
              have o1 : Rp X.K W H2 (.list ds) v := o1
              have o2 : Rp X.K W H2 (.list es) u := o2
              cases o1 with
              | lst a1 a2 a3 a4 =>
                cases o2 with
                | lst b1 b2 b3 b4 => exact ⟨_, _, _, _, rfl, .inl ⟨.inl (.inl a1), .inl (.inl b1), h2 W _ H2 (FxE.shrink rs f) (itOk_zip a1 a2 a3 a4 b1 b2 b4)⟩⟩
            | _ => exact h2.elim
          | tuple ds =>
            cases y with
            | tuple es =>
              have o1 : Rp X.K W H2 (.tuple ds) v := o1
              have o2 : Rp X.K W H2 (.tuple es) u := o2
              cases o1 with
              | tup a1 a3 a4 =>
                cases o2 with
                | tup b1 b3 b4 => exact ⟨_, _, _, _, rfl, .inr ⟨a1, b1, h2 W _ H2 (FxE.shrink rs f) (itOk_zipT a1 a3 a4 b1 b4)⟩⟩
            | _ => exact h2.elim
          | _ => cases y <;> exact h2.elim
        | _ => cases x <;> exact h2.elim
      | _ => cases y <;> exact h2.elim
end
end Mp

set_option maxRecDepth 100000
set_option maxHeartbeats 4000000
/-! MpE: enumerate over a tuple. -/
namespace Mp
open PySem PySem.Spec PyProof.Rows L2
theorem meets_enum1 {v : Value} {o : Obj} {H : Heap → Prop} (B : Begins v o H) :
    Meets (Builtin.«enumerate.__new__» ⟨[.type "enumerate", v], []⟩) (fun _ R s => H s.heap ∧
      R (.ok (.ret (.ref (s.heap.push o).objs.size))) { s with heap := (s.heap.push o).push { cls := .type "enumerate", data := .fields #[.none, .bool false, .ref s.heap.objs.size, rawInt 0, .none, .none] } }) :=
  .of_wp fun prog w A R s h => by
    obtain ⟨hp, g, d, tk, os⟩ := s; obtain ⟨h1, h⟩ := h
    have hsub := sub_enumerate
    have q1 : ∀ {A' : Around} {E : Value → Shared → Prop} {Q : Value → Shared → Prop}, Q (.ref hp.objs.size) ⟨hp.push o, g, d, tk, os⟩ → wpAny (model prog w) A' (pyIter v) Q E ⟨hp, g, d, tk, os⟩ :=
      fun q => B.iter prog w _ _ ⟨hp, g, d, tk, os⟩ _ h1 q
    wp_walk using q1
    refine wpAny_stack_any fun st => wpAny_pure ?_
    split
    · rename_i c _ _ _ _ _
      cases (c == Value.type "enumerate")
      · wp_walk using q1
        exact ⟨_, rfl, h⟩
      · wp_walk using q1
        exact ⟨_, rfl, h⟩
    · wp_walk using q1
      exact ⟨_, rfl, h⟩
theorem call_enum1 {prog : Program} {w : World} {A : Around} {E : Value → Shared → Prop} {s : Shared} {v : Value} {o : Obj} {H : Heap → Prop} {Q : Value → Shared → Prop} (B : Begins v o H) (h1 : H s.heap)
    (h : ∀ h', IsEnum h' (s.heap.objs.size + 1) s.heap.objs.size 0 .none → h'.get? s.heap.objs.size = some o → h'.objs.size = s.heap.objs.size + 2 →
      (∀ b o, s.heap.get? b = some o → h'.get? b = some o) → Q (.ref (s.heap.objs.size + 1)) { s with heap := h' }) :
    wpAny (model prog w) A (call (.type "enumerate") [v]) Q E s := by
  refine callType_new F.called_enumerate (by decide) (F.typeCall_enumerate_1 _) (F.newCall_enumerate_1 _) (fun obj => F.args_object_init_2 obj _) F.entry_enumerate_new
    (meets_enum1 B) ⟨h1, ?_⟩
  have hz : (s.heap.push o).objs.size = s.heap.objs.size + 1 := Heap.size_push ..
  show _ ∧ _
  rw [hz]
  have he : IsEnum ((s.heap.push o).push { cls := .type "enumerate", data := .fields #[.none, .bool false, .ref s.heap.objs.size, rawInt 0, .none, .none] }) (s.heap.objs.size + 1) s.heap.objs.size 0 .none := by
    have := Heap.get?_push_size (s.heap.push o) (o := { cls := .type "enumerate", data := .fields #[.none, .bool false, .ref s.heap.objs.size, rawInt 0, .none, .none] }) rfl
    rw [hz] at this; exact this
  refine ⟨⟨_, he, rfl⟩, h _ he (Heap.get?_push_of_some _ (Heap.get?_push_size _ B.free)) (by rw [Heap.size_push, hz]) fun b o x => Heap.get?_push_of_some _ (Heap.get?_push_of_some _ x)⟩
/-- the tuple at a, each item in a new pair -/
def IteT (K : PySem.W.Frag) (a : Addr) : It :=
  ⟨fun i H => ∃ (xs : List V) (x : V), SqT K H a xs ∧ xs[i]? = some x, fun i H v H' => ∃ T x, v = .ref T ∧ H T = none ∧ H' = upd H T (.tup [.int (i : Nat), x]) ∧ ∀ xs, SqT K H a xs → xs[i]? = some x, fun i H => ∃ xs : List V, SqT K H a xs ∧ xs.length ≤ i⟩
theorem turn_enumT {P : Program} {w : World} {K : PySem.W.Frag} {elts : List Expr} {kk : Nat} {tpos : Pos} (a e it : Addr) :
    Turn P w K (.Tuple elts kk tpos) (IteT K a) [e, it] e (fun i h => (∃ old, IsEnum h e it ((i : Nat) : Int) old) ∧ h.IsTupleIter it a i ∧ e ≠ it ∧ a ≠ it ∧ e ≠ a) where
  mem := by simp
  obj := fun i h st b hb => by
    obtain ⟨⟨old, he⟩, ⟨o, ho, hc, hd⟩, _⟩ := st
    have e' : b = e ∨ b = it := by simpa using hb
    rcases e' with z | z
    · rw [z]; exact ⟨_, he, fun v q => nomatch q⟩
    · rw [z]; exact ⟨o, ho, fun v q => by rw [hd] at q; cases q⟩
  keep := fun i h h' st k => let ⟨⟨old, he⟩, hi, hne⟩ := st; ⟨⟨old, k e (by simp) _ he⟩, hi.at fun o q => k it (by simp) o q, hne⟩
  item := by
    intro X hP hw hK hc i pins s σ H E I hf st hg
    subst hP hw hK
    obtain ⟨⟨old, he⟩, hit, hne, hai, hea⟩ := st
    obtain ⟨xs, x, hq, hx⟩ := hg
    obtain ⟨its, rv, p, hz⟩ := I.tuple hq
    obtain ⟨u, hu, ru⟩ := rv.get hx
    have hel : e < s.heap.objs.size := Heap.lt_size he
    have hil : it < s.heap.objs.size := by obtain ⟨_, q, _⟩ := hit; exact Heap.lt_size q
    have hlt : i < its.toArray.size := by have := (List.getElem?_eq_some_iff.mp hu).1; simpa using this
    have hef : e ∉ [it, a] := by simp; exact ⟨hne, hea⟩
    refine wpAny_pyNext_enum_itemD (Draws.tuple (A := X.A.in1) (I.ok.hd hc) it a hai its.toArray) he ⟨hit, p⟩ hlt hne hef fun x' h' tk hP ho hit' hT hsz hk => ?_
    have hxu : x' = u := by
      have h1 : its.toArray[i]? = some x' := hP
      have h2 : its.toArray[i]? = some u := by simpa using hu
      rw [h1] at h2; exact Option.some.inj h2
    subst hxu
    refine ⟨_, rfl, wpAny_letOwnedTupleGo_enum (s := { s with heap := h', toks := tk + 1 }) ho fun h'' he' sb => ?_⟩
    have hT2 : h''.get? s.heap.objs.size = some { cls := .type "tuple", data := .seq #[.int i tk, x'] } := (sb.2 _ (Nat.ne_of_gt hel)).trans hT
    have new : ObjOk X.prog X.w (upd H s.heap.objs.size (.tup [.int (i : Nat), x])) h'' s.heap.objs.size (.tup [.int (i : Nat), x]) :=
      ⟨by show 2 ≤ sizeLine; decide, [.int i tk, x'], .cons ⟨_, rfl⟩ (.cons ru .nil), ⟨_, hT2, rfl, _, rfl⟩⟩
    have I1 : Inv X pins σ (upd H s.heap.objs.size (.tup [.int (i : Nat), x])) { s with heap := h'', toks := tk + 1 } :=
      I.turnedNew (ch := [e, it]) (fun b ob hb q => (sb.2 b (fun z => hb (by simp [z]))).trans (hk b ob (fun z => hb (by simp [z])) (fun z => hb (by simp [z])) q)) hf (Nat.le_refl _) new
    refine ⟨.ref s.heap.objs.size, _, I1, rfl, ⟨_, x, rfl, I.hok.fresh (Nat.le_refl _), rfl, fun ys hy => by rw [I.tuple_inj hy hq]; exact hx⟩, ⟨⟨x', ?_⟩, hit'.1.at fun o q => (sb.2 it (Ne.symm hne)).trans q, hne, hai, hea⟩, fun b hb => ?_⟩
    · have e1 : ((i + 1 : Nat) : Int) = (i : Int) + 1 := by omega
      rw [e1]; exact he'
    · have hb' : b < s.heap.objs.size := by
        have e' : b = e ∨ b = it := by simpa using hb
        rcases e' with z | z
        · rw [z]; exact hel
        · rw [z]; exact hil
      rw [upd_ne (Nat.ne_of_lt hb')]
      exact (hf b hb).1
  done := by
    intro X hP hw hK hc i pins s σ H E I hf st hg
    subst hP hw hK
    obtain ⟨⟨old, he⟩, hit, hne, hai, hea⟩ := st
    obtain ⟨xs, hq, hx⟩ := hg
    obtain ⟨its, rv, p, hz⟩ := I.tuple hq
    obtain ⟨f0, f1, f2, f3, f4, f5⟩ := hf it (by simp)
    have hl := rv.length
    have D := Draws.tuple (prog := X.prog) (w := X.w) (A := X.A.in1) (I.ok.hd hc) it a hai its.toArray
    have fin : ∀ h', Heap.ExtBut it s.heap h' → (none : Option Value) = none ∧ Inv X pins σ H { s with heap := h' } := fun h' eb => ⟨rfl, I.turned (t' := s.toks) (fun b o hb q => eb b o hb q) f0 f1 f3 f4 f5⟩
    have hT : s.TypeIs (.ref e) "enumerate" := ⟨_, he, rfl⟩
    unfold pyNext
    refine wpAny_bind (wpAny_attempt (wpAny_callSpecial?_slot (name := Str.ofString "__next__") hT F.slot_enumerate_next
      (wpAny_call_entry F.slot_enumerate_next hT F.entry_enumerate_next ?_ (F.args_enumerate_next_1 _))))
    show wpAny _ _ (field (.ref e) 2 >>= _) _ _ _
    refine wpAny_bind (wpAny_field he rfl (x := .ref it) rfl ?_)
    refine wpAny_bind (wpAny_nextOf_tuple_end (A := X.A.in1) (I.ok.hd hc) hit p (by simp; omega) fun h' x he' hx' => ?_)
    obtain ⟨o, ho, hc⟩ := hx'
    refine wpAny_bind (wpAny_isInstance (T := "StopIteration") (b := true) ⟨o, ho, hc⟩ isSubtype_stop ?_)
    exact wpAny_pure (fin _ he')
  self := fun A i s Q E st h => let ⟨⟨_, he⟩, _⟩ := st; wpAny_pyIter_enum he h
def iEnumT (K : PySem.W.Frag) (ta : TA) : TI := fun σ H R => ta σ H fun vs H1 => ∃ a xs, vs = [.ref a] ∧ ((SqL K H1 a xs ∧ R (Ite K a) H1) ∨ (SqT K H1 a xs ∧ R (IteT K a) H1))
theorem pi_enumT {X : Cx} {e : Expr} {ta : TA} {p pos tpos : Pos} {elts : List Expr} {kk : Nat} (hg : Gl X "enumerate") (hm : X.mg "enumerate" = none) (ha : PA X [e] ta) (hs : starEach [e] X.env = [(false, eval e X.env)] := by rfl) :
    PI X (.Tuple elts kk tpos) (.Call (.Name "enumerate" p) [e] [] pos) (iEnumT X.K ta) := by
  refine ⟨fun pins s σ H R I h => ?_⟩
  refine Call_ (ld_blt I hg hm boot_enumerate (PyProof.Rows.callWith_type1 (thn (ha.run pos pins s σ H _ I h) fun us s1 ⟨vs, H1, I1, r1, q1⟩ => ?_) hs rfl))
  obtain ⟨a, xs, ex, hq⟩ := q1
  subst ex
  cases r1 with
  | cons r rr =>
    cases rr
    cases r
    rcases hq with ⟨hq, q⟩ | ⟨hq, q⟩
    · obtain ⟨its, rv, p', hz⟩ := I1.list hq
      refine call_enumerate_list p'.isList fun h' he hit hsz hk => wpAny_pyIter_enum he ?_
      have I2 : Inv X pins σ H1 { s1 with heap := h' } := I1.kept (t' := s1.toks) hk
      refine ⟨s1.heap.objs.size + 1, [s1.heap.objs.size + 1, s1.heap.objs.size], _, _, H1, rfl, I2, turn_enum a (s1.heap.objs.size + 1) s1.heap.objs.size, ⟨⟨.none, he⟩, hit, Nat.succ_ne_self _⟩, fun b hb => ?_, q⟩
      have e' : b = s1.heap.objs.size + 1 ∨ b = s1.heap.objs.size := by simpa using hb
      have hle : s1.heap.objs.size ≤ b := by
        rcases e' with z | z
        · rw [z]; exact Nat.le_add_right _ _
        · rw [z]; exact Nat.le_refl _
      exact I1.fpOk hle (I1.hok.fresh hle)
    · obtain ⟨its, rv, p', hz⟩ := I1.tuple hq
      have hal : a < s1.heap.objs.size := by obtain ⟨o, ho, _⟩ := p'; exact Heap.lt_size ho
      refine call_enum1 (begins_tuple a its.toArray) p' fun h' he hit hsz hk => wpAny_pyIter_enum he ?_
      have I2 : Inv X pins σ H1 { s1 with heap := h' } := I1.kept (t' := s1.toks) hk
      refine ⟨s1.heap.objs.size + 1, [s1.heap.objs.size + 1, s1.heap.objs.size], _, _, H1, rfl, I2, turn_enumT a (s1.heap.objs.size + 1) s1.heap.objs.size, ⟨⟨.none, he⟩, ⟨_, hit, rfl, rfl⟩, Nat.succ_ne_self _, Nat.ne_of_lt hal, Nat.ne_of_gt (Nat.lt_succ_of_lt hal)⟩, fun b hb => ?_, q⟩
      have e' : b = s1.heap.objs.size + 1 ∨ b = s1.heap.objs.size := by simpa using hb
      have hle : s1.heap.objs.size ≤ b := by
        rcases e' with z | z
        · rw [z]; exact Nat.le_add_right _ _
        · rw [z]; exact Nat.le_refl _
      exact I1.fpOk hle (I1.hok.fresh hle)
section
variable {K : PySem.W.Frag} {fa : FT} {W : Wd} {H : Hp}
theorem itOk_enumT {a : Addr} {xs : List V} {ds : List P} (h : SqT K H a xs) (z : xs.length ≤ sizeLine) (r : RpA K W H ds xs) : ItOk K fa W H (IteT K a) (enumL 0 ds) := by
  have hl := r.length
  refine ⟨by rw [enumL_len]; rw [sizeLine_eq] at z; omega, fun W2 H2 s dm => ⟨fun i x e => ?_, fun i hi => ?_⟩⟩
  · obtain ⟨y, e1, e2⟩ := enumL_get e
    obtain ⟨v, e3, r3⟩ := r.get e1
    have h2 := s.sqT h
    refine ⟨⟨xs, v, h2, e3⟩, fun u H3 hy => ?_⟩
    obtain ⟨T, x', eu, hT, eH, hx⟩ := hy
    have := hx xs h2
    rw [e3] at this
    cases this
    subst eu eH e2
    refine ⟨grow_upd hT, ?_⟩
    rw [show ((0 + i : Nat) : Int) = ((i : Nat) : Int) by simp]
    exact rp_pair dm (.int _) (s.rp r3) hT
  · rw [enumL_len] at hi
    exact ⟨xs, s.sqT h, by omega⟩
end
section
variable {X : Cx} {fa : FT} {ca : FA} {Wx : WX} {a b c tg : Expr} {pos p : Pos}
theorem it_enum {q : Pr} {elts : List Expr} {kk : Nat} {tpos : Pos} (hg : Gl X "enumerate") (hm : X.mg "enumerate" = none) (d : Der X fa ca Wx a q) : PI X (.Tuple elts kk tpos) (.Call (.Name "enumerate" p) [a] [] pos) (rdI (cx X fa ca Wx) fun ρ => (q.v ρ).bind enumI) := by
  refine PI.mono (pi_enumT hg hm (pa_cons d.v pa_nil (plain_star d.sy [] _)) (plain_star d.sy [] _)) fun σ H R ⟨W, ρ, rs, h⟩ => ?_
  refine rd_thenI rs h fun W1 ρ1 H1 r v f1 q1 h1 => ?_
  unfold enumI at h1
  cases e1 : shD r with
  | none => rw [e1] at h1; exact h1.elim
  | some x =>
    rw [e1] at h1
    have o1 := q1.out rs f1 e1
    cases x with
    | d x =>
      cases x with
      | list ds =>
        have o1 : Rp X.K W H1 (.list ds) v := o1
        cases o1 with
        | lst a1 a2 a3 a4 => exact ⟨_, _, rfl, .inl ⟨.inl (.inl a1), h1 W _ H1 (FxE.shrink rs f1) (itOk_enum a1 a2 a3 a4)⟩⟩
      | tuple ds =>
        have o1 : Rp X.K W H1 (.tuple ds) v := o1
        cases o1 with
        | tup a1 a2 a3 => exact ⟨_, _, rfl, .inr ⟨a1, h1 W _ H1 (FxE.shrink rs f1) (itOk_enumT a1 a2 a3)⟩⟩
      | _ => exact h1.elim
    | _ => exact h1.elim
end
end Mp

set_option maxRecDepth 100000
set_option maxHeartbeats 4000000
/-! Mp10: targets, list comprehensions. -/
namespace Mp
open PySem PySem.Spec PyProof.Rows L2

/-! ### slots set by targets -/
/-- from slots to slots by stores of values -/
def setNσ : List (Nat × Str) → List V → L2.St → L2.St
  | (i, _) :: r, v :: vs, σ => setNσ r vs (σ.set i (some v))
  | _, _, σ => σ
def Tg.ix : Tg → List Nat
  | .nm i _ => [i]
  | .tp ts => ts.map (·.1)

section
variable {K : PySem.W.Frag} {fa : FT} {W W0 W1 W2 : Wd} {ρ ρ0 ρ1 ρ2 : Env} {σ : L2.St} {H H0 H1 H2 : Hp} {Q : VK} {v : V}
/-- a slot takes a value -/
theorem RS.setVal (rs : RS K fa W ρ σ H) {i : Nat} {x : D} (r : RpD K fa W H x v) : RS K fa W (ρ.set i (.val x)) (σ.set i (some v)) H := by
  refine ⟨by rw [List.length_set, List.length_set]; exact rs.len, fun j y e => ?_, fun j l y e => ?_, fun j k l l' y y' a e1 e2 e3 e4 => ?_, rs.dom, rs.tab⟩
  · by_cases hj : i = j
    · subst hj
      by_cases hi : i < ρ.length
      · rw [List.getElem?_set_self hi] at e
        cases e
        exact ⟨v, by rw [List.getElem?_set_self (by rw [← rs.len]; exact hi)], r⟩
      · rw [List.getElem?_eq_none (by rw [List.length_set]; omega)] at e
        cases e
    · rw [List.getElem?_set_ne hj] at e ⊢
      exact rs.val j y e
  · by_cases hj : i = j
    · subst hj
      by_cases hi : i < ρ.length
      · rw [List.getElem?_set_self hi] at e; cases e
      · rw [List.getElem?_eq_none (by rw [List.length_set]; omega)] at e
        cases e
    · rw [List.getElem?_set_ne hj] at e ⊢
      exact rs.own j l y e
  · have ne : ∀ m l y, (ρ.set i (Sl.val x))[m]? = some (Sl.own l y) → i ≠ m := fun m l y e z => by
      subst z
      by_cases hi : i < ρ.length
      · rw [List.getElem?_set_self hi] at e; cases e
      · rw [List.getElem?_eq_none (by rw [List.length_set]; omega)] at e
        cases e
    have h1 := ne j l y e1
    have h2 := ne k l' y' e2
    rw [List.getElem?_set_ne h1] at e1 e3
    rw [List.getElem?_set_ne h2] at e2 e4
    exact rs.inj j k l l' y y' a e1 e2 e3 e4
theorem Fx.setVal (rs : RS K fa W ρ σ H) {i : Nat} {x : D} (r : RpD K fa W H x v) (nl : ∀ y, ρ[i]? ≠ some (Sl.own true y)) : Fx K fa W ρ σ H W (ρ.set i (.val x)) (σ.set i (some v)) H := by
  refine ⟨rs.setVal r, fun _ _ e _ _ => e, fun a z => ?_, fun a w => .inl w, fun a w => .inl w, fun _ e => e, fun j y e => ?_⟩
  · obtain ⟨j, l, y, e1, e2⟩ := z
    by_cases hj : i = j
    · subst hj
      by_cases hi : i < ρ.length
      · rw [List.getElem?_set_self hi] at e1; cases e1
      · rw [List.getElem?_eq_none (by rw [List.length_set]; omega)] at e1
        cases e1
    · rw [List.getElem?_set_ne hj] at e1 e2
      exact .inl ⟨j, l, y, e1, e2⟩
  · have hj : i ≠ j := fun z => by subst z; exact nl y e
    rw [List.getElem?_set_ne hj, List.getElem?_set_ne hj]
    exact ⟨y, e, rfl⟩
theorem setN_fx : ∀ {ts : List (Nat × Str)} {xs : List P} {vs : List V} {ρ ρ' : Env} {σ : L2.St}, RS K fa W ρ σ H → RpA K W H xs vs → setN ts xs ρ = some ρ' → Fx K fa W ρ σ H W ρ' (setNσ ts vs σ) H
  | [], [], _, ρ, ρ', σ, rs, .nil, e => by cases e; exact Fx.refl rs
  | (i, x) :: ts, y :: xs, _, ρ, ρ', σ, rs, .cons r t, e => by
    unfold setN at e
    split at e
    · cases e
    · rename_i s hs hne
      have f := Fx.setVal (i := i) (x := .d y) rs r (fun z hz => by
        rw [hz] at hne; cases hne; exact hs z rfl)
      exact Fx.trans rs f (setN_fx f.rs t e)
    · cases e

/-- only the slots of the target differ -/
def SetOn (tg : Tg) (σ σ' : L2.St) : Prop := σ'.length = σ.length ∧ ∀ j, j ∉ tg.ix → σ'[j]? = σ[j]?
theorem setNσ_len : ∀ (ts : List (Nat × Str)) (vs : List V) (σ : L2.St), (setNσ ts vs σ).length = σ.length
  | [], _, σ => by unfold setNσ; rfl
  | (i, x) :: ts, [], σ => by unfold setNσ; rfl
  | (i, x) :: ts, v :: vs, σ => by unfold setNσ; rw [setNσ_len, List.length_set]
theorem setNσ_get : ∀ (ts : List (Nat × Str)) (vs : List V) (σ : L2.St) (j : Nat), j ∉ ts.map (·.1) → (setNσ ts vs σ)[j]? = σ[j]?
  | [], _, σ, j, _ => by unfold setNσ; rfl
  | (i, x) :: ts, [], σ, j, _ => by unfold setNσ; rfl
  | (i, x) :: ts, v :: vs, σ, j, h => by
    rw [List.map_cons, List.mem_cons] at h
    unfold setNσ
    rw [setNσ_get ts vs _ j (fun z => h (.inr z)), List.getElem?_set_ne (fun z => h (.inl z.symm))]
def gTg (C : Ctx) (tg : Tg) : TG := fun v σ H Q => ∃ W ρ x ρ', RS C.K C.fa W ρ σ H ∧ RpD C.K C.fa W H x v ∧ setTg tg x ρ = some ρ' ∧ ∀ σ', SetOn tg σ σ' → Fx C.K C.fa W ρ σ H W ρ' σ' H → Q σ' H
theorem PG.mono {X : Cx} {e : Expr} {t t' : TG} (h : PG X e t) (hi : ∀ v σ H Q, t' v σ H Q → t v σ H Q) : PG X e t' := ⟨fun pins s σ H v u Q I r q => h.run pins s σ H v u Q I r (hi _ _ _ _ q)⟩
theorem PGs.mono {X : Cx} {e : List Expr} {t t' : TGs} (h : PGs X e t) (hi : ∀ v σ H Q, t' v σ H Q → t v σ H Q) : PGs X e t' := ⟨fun pins s σ H v u Q I r q => h.run pins s σ H v u Q I r (hi _ _ _ _ q)⟩
/-- a name that may be stored, in slot i -/
structure StN (X : Cx) (i : Nat) (x : Str) : Prop where
  hi : X.N[i]? = some x
  loc : Loc X.env.scope x
  hf : X.fn x = true ∨ X.env.scope.names.lookup x = some .local
theorem tg_nm {X : Cx} {fa : FT} {ca : FA} {Wx : WX} {i : Nat} {x : Str} {pos : Pos} (nd : X.N.Nodup) (h : StN X i x) : PG X (.Name x pos) (gTg (cx X fa ca Wx) (.nm i x)) := by
  refine PG.mono (pg_name nd h.hi h.loc h.hf) fun v σ H Q ⟨W, ρ, y, ρ', rs, r, e, q⟩ => ?_
  have e : (match ρ[i]? with | some (Sl.own true _) => none | some _ => some (ρ.set i (.val y)) | none => none) = some ρ' := e
  split at e
  · cases e
  · rename_i s hs hne
    cases e
    refine q _ ⟨by rw [List.length_set], fun j hj => ?_⟩ (Fx.setVal rs r fun z hz => by rw [hz] at hne; cases hne; exact hs z rfl)
    have : i ≠ j := fun z => hj (by rw [z]; exact List.mem_singleton.mpr rfl)
    rw [List.getElem?_set_ne this]
  · cases e
def gNs (ts : List (Nat × Str)) : TGs := fun vs σ H Q => vs.length = ts.length ∧ Q (setNσ ts vs σ) H
inductive NmsE (X : Cx) : List (Nat × Str) → List Expr → Prop
  | nil : NmsE X [] []
  | cons {i x p ts es} : StN X i x → NmsE X ts es → NmsE X ((i, x) :: ts) (.Name x p :: es)
theorem NmsE.len {X : Cx} {ts : List (Nat × Str)} {es : List Expr} (h : NmsE X ts es) : (assignEach es X.env).length = ts.length ∧ (assignEach es X.env).findIdx? (·.1) = none := by
  induction h with
  | nil => exact ⟨rfl, rfl⟩
  | @cons i x p ts es s t ih =>
    have e : assignEach (.Name x p :: es) X.env = (false, assign (.Name x p) X.env) :: assignEach es X.env := rfl
    refine ⟨?_, ?_⟩
    · rw [e, List.length_cons, ih.1, List.length_cons]
    · rw [e, List.findIdx?_cons, ih.2]; rfl
theorem pgs_nms {X : Cx} (nd : X.N.Nodup) {ts : List (Nat × Str)} {es : List Expr} (h : NmsE X ts es) : PGs X es (gNs ts) := by
  induction h with
  | nil =>
    refine PGs.mono pgs_nil fun vs σ H Q ⟨hl, q⟩ => ?_
    cases vs with
    | nil => exact ⟨rfl, q⟩
    | cons _ _ => cases hl
  | cons s t ih =>
    refine PGs.mono (pgs_cons (pg_name nd s.hi s.loc s.hf) ih) fun vs σ H Q ⟨hl, q⟩ => ?_
    cases vs with
    | nil => cases hl
    | cons v vs => exact ⟨v, vs, rfl, by simpa using hl, q⟩
theorem setN_len : ∀ {ts : List (Nat × Str)} {xs : List P} {ρ ρ' : Env}, setN ts xs ρ = some ρ' → xs.length = ts.length
  | [], [], _, _, _ => rfl
  | [], _ :: _, _, _, e => by unfold setN at e; cases e
  | _ :: _, [], _, _, e => by unfold setN at e; cases e
  | (i, x) :: ts, y :: xs, ρ, ρ', e => by
    unfold setN at e
    split at e
    · cases e
    · rw [List.length_cons, List.length_cons, setN_len e]
    · cases e
theorem tg_tp {X : Cx} {fa : FT} {ca : FA} {Wx : WX} {ts : List (Nat × Str)} {es : List Expr} {k : Nat} {pos : Pos} (hc : X.calm = true) (nd : X.N.Nodup) (h : NmsE X ts es) : PG X (.Tuple es k pos) (gTg (cx X fa ca Wx) (.tp ts)) := by
  refine PG.mono (pg_tup hc (pgs_nms nd h) (n := ts.length) h.len.1 h.len.2) fun v σ H Q ⟨W, ρ, y, ρ', rs, r, e, q⟩ => ?_
  cases y with
  | d y =>
    cases y with
    | tuple xs =>
      have r : Rp X.K W H (.tuple xs) v := r
      cases r with
      | @tup a vs _ h1 h2 h3 =>
        have e : setN ts xs ρ = some ρ' := e
        have hl := setN_len e
        have hv := h3.length
        refine ⟨a, vs, rfl, h1, by omega, by omega, q _ ⟨setNσ_len ts vs σ, fun j hj => setNσ_get ts vs σ j hj⟩ (setN_fx rs h3 e)⟩
    | _ => cases e
  | _ => cases e

/-! ### blocks -/
section
variable {K : PySem.W.Frag} {fa : FT} {W W0 W1 W2 : Wd} {ρ ρ0 ρ1 ρ2 : Env} {σ σ' : L2.St} {H H0 H1 H2 : Hp} {Q : VK} {v : V}
theorem wipeE_len (ρ : Env) : ∀ vs : List Nat, (wipeE ρ vs).length = ρ.length
  | [] => rfl
  | v :: vs => by unfold wipeE; rw [List.length_set, wipeE_len ρ vs]
theorem wipeE_out {i : Nat} : ∀ {vs : List Nat}, i ∉ vs → (wipeE ρ vs)[i]? = ρ[i]?
  | [], _ => rfl
  | v :: vs, h => by
    unfold wipeE
    rw [List.mem_cons] at h
    rw [List.getElem?_set_ne (fun z => h (.inl z.symm)), wipeE_out fun z => h (.inr z)]
theorem wipeE_in {i : Nat} : ∀ {vs : List Nat}, i ∈ vs → i < ρ.length → (wipeE ρ vs)[i]? = some .un
  | v :: vs, h, hi => by
    unfold wipeE
    by_cases e : v = i
    · subst e
      rw [List.getElem?_set_self (by rw [wipeE_len]; exact hi)]
    · rw [List.getElem?_set_ne e]
      rcases List.mem_cons.mp h with z | z
      · exact absurd z.symm e
      · exact wipeE_in z hi
theorem wipe_out' {i : Nat} : ∀ {vs : List Nat}, i ∉ vs → (wipe σ vs)[i]? = σ[i]?
  | [], _ => rfl
  | v :: vs, h => by
    unfold wipe
    rw [List.mem_cons] at h
    rw [List.getElem?_set_ne (fun z => h (.inl z.symm)), wipe_out' fun z => h (.inr z)]
theorem wipe_in' {i : Nat} : ∀ {vs : List Nat}, i ∈ vs → i < σ.length → (wipe σ vs)[i]? = some none
  | v :: vs, h, hi => by
    unfold wipe
    by_cases e : v = i
    · subst e
      rw [List.getElem?_set_self (by rw [wipe_length]; exact hi)]
    · rw [List.getElem?_set_ne e]
      rcases List.mem_cons.mp h with z | z
      · exact absurd z.symm e
      · exact wipe_in' z hi
theorem wipe_eq {tg : Tg} {vs : List Nat} (s : SetOn tg (wipe σ vs) σ') (h : ∀ i ∈ tg.ix, i ∈ vs) : wipe σ' vs = wipe σ vs := by
  have hl : σ'.length = σ.length := by rw [s.1, wipe_length]
  apply List.ext_getElem?
  intro i
  by_cases hi : i ∈ vs
  · by_cases hlt : i < σ.length
    · rw [wipe_in' hi hlt, wipe_in' hi (by omega)]
    · rw [List.getElem?_eq_none (by rw [wipe_length]; omega), List.getElem?_eq_none (by rw [wipe_length]; omega)]
  · rw [wipe_out' hi, wipe_out' hi, s.2 i fun z => hi (h i z), wipe_out' hi]
theorem RS.wipe (rs : RS K fa W ρ σ H) (vs : List Nat) : RS K fa W (wipeE ρ vs) (wipe σ vs) H := by
  have key : ∀ {i : Nat} {s : Sl}, s ≠ .un → (wipeE ρ vs)[i]? = some s → i ∉ vs := fun {i s} n e hi => by
    have hlt : i < ρ.length := by
      have := (List.getElem?_eq_some_iff.mp e).1
      rwa [wipeE_len] at this
    rw [wipeE_in hi hlt] at e
    cases e; exact n rfl
  refine ⟨by rw [wipeE_len, wipe_length]; exact rs.len, fun i x e => ?_, fun i l x e => ?_, fun i j l l' x x' a e1 e2 e3 e4 => ?_, rs.dom, rs.tab⟩
  · have hi := key (by simp) e
    rw [wipeE_out hi] at e
    rw [wipe_out' hi]
    exact rs.val i x e
  · have hi := key (by simp) e
    rw [wipeE_out hi] at e
    rw [wipe_out' hi]
    exact rs.own i l x e
  · have h1 := key (by simp) e1
    have h2 := key (by simp) e2
    rw [wipeE_out h1] at e1
    rw [wipeE_out h2] at e2
    rw [wipe_out' h1] at e3
    rw [wipe_out' h2] at e4
    exact rs.inj i j l l' x x' a e1 e2 e3 e4
theorem Ow.wipe (h : RS K fa W ρ σ H) {vs : List Nat} {a : Addr} (o : Ow (wipeE ρ vs) (wipe σ vs) a) : Ow ρ σ a := by
  obtain ⟨i, l, x, e1, e2⟩ := o
  have hi : i ∉ vs := fun hi => by
    have hlt : i < ρ.length := by
      have := (List.getElem?_eq_some_iff.mp e1).1
      rwa [wipeE_len] at this
    rw [wipeE_in hi hlt] at e1
    cases e1
  rw [wipeE_out hi] at e1
  rw [wipe_out' hi] at e2
  exact ⟨i, l, x, e1, e2⟩
theorem backE_len (ρ0 ρ : Env) : ∀ vs : List Nat, (backE ρ0 ρ vs).length = ρ.length
  | [] => rfl
  | v :: vs => by unfold backE; rw [List.length_set, backE_len ρ0 ρ vs]
theorem backE_out {i : Nat} : ∀ {vs : List Nat}, i ∉ vs → (backE ρ0 ρ vs)[i]? = ρ[i]?
  | [], _ => rfl
  | v :: vs, h => by
    unfold backE
    rw [List.mem_cons] at h
    rw [List.getElem?_set_ne (fun z => h (.inl z.symm)), backE_out fun z => h (.inr z)]
theorem backE_in {i : Nat} : ∀ {vs : List Nat}, i ∈ vs → i < ρ.length → ρ.length = ρ0.length → (backE ρ0 ρ vs)[i]? = ρ0[i]?
  | v :: vs, h, hi, hl => by
    unfold backE
    by_cases e : v = i
    · subst e
      rw [List.getElem?_set_self (by rw [backE_len]; exact hi), List.getD_eq_getElem?_getD, List.getElem?_eq_getElem (by omega)]
      rfl
    · rw [List.getElem?_set_ne e]
      rcases List.mem_cons.mp h with z | z
      · exact absurd z.symm e
      · exact backE_in z hi hl
end
end
end Mp

set_option maxRecDepth 100000
set_option maxHeartbeats 4000000
/-! Mp11: list comprehensions. -/
namespace Mp
open PySem PySem.Spec PyProof.Rows L2

theorem setN_out : ∀ {ts : List (Nat × Str)} {xs : List P} {ρ ρ' : Env}, setN ts xs ρ = some ρ' → ∀ j, j ∉ ts.map (·.1) → ρ'[j]? = ρ[j]?
  | [], [], _, _, e, j, _ => by unfold setN at e; cases e; rfl
  | [], _ :: _, _, _, e, _, _ => by unfold setN at e; cases e
  | _ :: _, [], _, _, e, _, _ => by unfold setN at e; cases e
  | (i, x) :: ts, y :: xs, ρ, ρ', e, j, h => by
    rw [List.map_cons, List.mem_cons] at h
    unfold setN at e
    split at e
    · cases e
    · rw [setN_out e j (fun z => h (.inr z)), List.getElem?_set_ne (fun z => h (.inl z.symm))]
    · cases e
theorem setTg_out {tg : Tg} {x : D} {ρ ρ' : Env} (e : setTg tg x ρ = some ρ') (j : Nat) (h : j ∉ tg.ix) : ρ'[j]? = ρ[j]? := by
  cases tg with
  | nm i y =>
    have e : (match ρ[i]? with | some (Sl.own true _) => none | some _ => some (ρ.set i (.val x)) | none => none) = some ρ' := e
    have hj : i ≠ j := fun z => h (by rw [z]; exact List.mem_singleton.mpr rfl)
    split at e
    · cases e
    · cases e; rw [List.getElem?_set_ne hj]
    · cases e
  | tp ts =>
    cases x with
    | d y =>
      cases y with
      | tuple xs => exact setN_out (show setN ts xs ρ = some ρ' from e) j h
      | _ => cases e
    | _ => cases e
theorem setTg_len {K : PySem.W.Frag} {fa : FT} {W W' : Wd} {ρ ρ' : Env} {σ σ' : L2.St} {H : Hp} (rs : RS K fa W ρ σ H) (f : Fx K fa W ρ σ H W' ρ' σ' H) (s : σ'.length = σ.length) : ρ'.length = ρ.length := by
  rw [f.rs.len, s, ← rs.len]

/-- between two turns of a comprehension: D the new list -/
structure JB (K : PySem.W.Frag) (fa : FT) (W0 : Wd) (ρ1 : Env) (σ : L2.St) (vs : List Nat) (H1 : Hp) (Dd : Addr) (i : Nat) (acc : List P) (ρi : Env) (H : Hp) : Prop where
  rs : RS K fa (fun a => W0 a ∨ a = Dd) ρi (wipe σ vs) H
  fr : ∀ a o, H1 a = some o → ¬ Ow (wipeE ρ1 vs) (wipe σ vs) a → NT o → H a = some o
  sh : ∀ (j : Nat) (l : Bool) (x : D), j ∉ vs → ρ1[j]? = some (Sl.own l x) → ∃ x', ρi[j]? = some (Sl.own l x')
  hs : ∀ (j : Nat) (l : Bool) (x : D), ρi[j]? = some (Sl.own l x) → j ∉ vs ∧ ∃ x', ρ1[j]? = some (Sl.own l x')
  dm : ∀ a, H1 a ≠ none → H a ≠ none
  here : ∃ av, H Dd = some (.lst av) ∧ RpA K (fun a => W0 a ∨ a = Dd) H acc av
  len : acc.length ≤ i
section
variable {K : PySem.W.Frag} {fa : FT} {W0 : Wd} {ρ1 ρi ρi1 ρi3 : Env} {σ σ2 : L2.St} {vs : List Nat} {H1 H H' H4 : Hp} {Dd : Addr} {i : Nat} {acc : List P}
theorem JB.ow (rs1 : RS K fa W0 ρ1 σ H1) (j : JB K fa W0 ρ1 σ vs H1 Dd i acc ρi H) {a : Addr} (o : Ow ρi (wipe σ vs) a) : Ow (wipeE ρ1 vs) (wipe σ vs) a := by
  obtain ⟨k, l, x, e1, e2⟩ := o
  obtain ⟨hk, x', e3⟩ := j.hs k l x e1
  exact ⟨k, l, x', by rw [wipeE_out hk]; exact e3, e2⟩
theorem JB.notD (rs1 : RS K fa W0 ρ1 σ H1) (n : H1 Dd = none) (j : JB K fa W0 ρ1 σ vs H1 Dd i acc ρi H) : ¬ Ow ρi (wipe σ vs) Dd := fun o => by
  have := (rs1.wipe vs).owW (j.ow rs1 o)
  exact rs1.notW n this
theorem JB.stay (rs1 : RS K fa W0 ρ1 σ H1) (n : H1 Dd = none) (j : JB K fa W0 ρ1 σ vs H1 Dd i acc ρi H) : Stay W0 H1 (fun a => W0 a ∨ a = Dd) H :=
  ⟨fun a o e w nt => j.fr a o e (fun z => w ((rs1.wipe vs).owW z)) nt, fun a z => z.elim .inl fun z => .inr (by rw [z]; exact n), rs1.dom⟩
/-- one turn: H' the yield's heap, σ2 behind the target, ρi3, H4 behind the test and the element; y appended or not -/
theorem JB.turn (rs1 : RS K fa W0 ρ1 σ H1) (n : H1 Dd = none) {tg : Tg} {x : D} (hsub : ∀ i ∈ tg.ix, i ∈ vs) (j : JB K fa W0 ρ1 σ vs H1 Dd i acc ρi H)
    (g : ∀ a o, H a = some o → H' a = some o) (es : setTg tg x ρi = some ρi1) (so : SetOn tg (wipe σ vs) σ2)
    (f1 : Fx K fa (fun a => W0 a ∨ a = Dd) ρi (wipe σ vs) H' (fun a => W0 a ∨ a = Dd) ρi1 σ2 H') (f : FxE K fa (fun a => W0 a ∨ a = Dd) ρi1 σ2 H' (fun a => W0 a ∨ a = Dd) ρi3 H4) :
    ∃ av, H4 Dd = some (.lst av) ∧ RpA K (fun a => W0 a ∨ a = Dd) H4 acc av ∧ JB K fa W0 ρ1 σ vs H1 Dd (i + 1) acc (wipeE ρi3 vs) H4 ∧
      ∀ y v, Rp K (fun a => W0 a ∨ a = Dd) H4 y v → JB K fa W0 ρ1 σ vs H1 Dd (i + 1) (acc ++ [y]) (wipeE ρi3 vs) (upd H4 Dd (.lst (av ++ [v]))) := by
  have ew := wipe_eq so hsub
  have rsg : RS K fa (fun a => W0 a ∨ a = Dd) ρi (wipe σ vs) H' := j.rs.grow g
  -- ownership behind the target
  have ow1 : ∀ {a}, Ow ρi1 σ2 a → Ow ρi (wipe σ vs) a := fun {a} ⟨k, l, z, e1, e2⟩ => by
    have hk : k ∉ tg.ix := fun hk => by
      -- a slot of the target holds a value
      have hv := hsub k hk
      have hlt : k < ρi.length := by
        have h1 := (List.getElem?_eq_some_iff.mp e1).1
        have h2 := setTg_len rsg f1 so.1
        omega
      rcases f1.ow a ⟨k, l, z, e1, e2⟩ with z' | z'
      · obtain ⟨k', l', z'', e3, e4⟩ := z'
        obtain ⟨hk', _⟩ := j.hs k' l' z'' e3
        have hk2 : k' ∉ tg.ix := fun q => hk' (hsub k' q)
        have e5 : ρi1[k']? = some (Sl.own l' z'') := by rw [setTg_out es k' hk2]; exact e3
        have e6 : σ2[k']? = some (some (V.ref a)) := by rw [so.2 k' hk2]; exact e4
        have := f1.rs.inj k k' l l' z z'' a e1 e5 e2 e6
        subst this
        exact hk' hv
      · obtain ⟨b, e3, w, r⟩ := f1.rs.own k l z e1
        rw [e2] at e3
        cases e3
        obtain ⟨o, eo, _⟩ := r.there
        rw [z'] at eo
        cases eo
    rw [setTg_out es k hk] at e1
    rw [so.2 k hk] at e2
    exact ⟨k, l, z, e1, e2⟩
  obtain ⟨av, hD, ra⟩ := j.here
  have nD := j.notD rs1 n
  have nD1 : ¬ Ow ρi1 σ2 Dd := fun z => nD (ow1 z)
  have hD' : H' Dd = some (.lst av) := g _ _ hD
  have hD4 : H4 Dd = some (.lst av) := f.fr _ _ hD' nD1 nt_lst
  have st0 : Stay (fun a => W0 a ∨ a = Dd) H (fun a => W0 a ∨ a = Dd) H' := Stay.grow j.rs.dom g
  have st : Stay (fun a => W0 a ∨ a = Dd) H' (fun a => W0 a ∨ a = Dd) H4 := f.stay f1.rs
  have ra4 := st.rpA (st0.rpA ra)
  have rsw : RS K fa (fun a => W0 a ∨ a = Dd) (wipeE ρi3 vs) (wipe σ vs) H4 := by
    have := f.rs.wipe vs
    rwa [ew] at this
  have frj : ∀ a o, H1 a = some o → ¬ Ow (wipeE ρ1 vs) (wipe σ vs) a → NT o → H4 a = some o := fun a o e no nt =>
    f.fr a o (g a o (j.fr a o e no nt)) (fun z => no (j.ow rs1 (ow1 z))) nt
  have shj : ∀ (k : Nat) (l : Bool) (x : D), k ∉ vs → ρ1[k]? = some (Sl.own l x) → ∃ x', (wipeE ρi3 vs)[k]? = some (Sl.own l x') := fun k l x hk e => by
    obtain ⟨x1, e1⟩ := j.sh k l x hk e
    rw [← setTg_out es k (fun z => hk (hsub k z))] at e1
    obtain ⟨x2, e2⟩ := f.sh k l x1 e1
    exact ⟨x2, by rw [wipeE_out hk]; exact e2⟩
  have hsj : ∀ (k : Nat) (l : Bool) (x : D), (wipeE ρi3 vs)[k]? = some (Sl.own l x) → k ∉ vs ∧ ∃ x', ρ1[k]? = some (Sl.own l x') := fun k l x e => by
    have hk : k ∉ vs := fun hk => by
      have hlt : k < ρi3.length := by
        have := (List.getElem?_eq_some_iff.mp e).1
        rwa [wipeE_len] at this
      rw [wipeE_in hk hlt] at e
      cases e
    rw [wipeE_out hk] at e
    obtain ⟨x1, e1⟩ := f.hs k l x e
    rw [setTg_out es k (fun z => hk (hsub k z))] at e1
    obtain ⟨_, x2, e2⟩ := j.hs k l x1 e1
    exact ⟨hk, x2, e2⟩
  have dmj : ∀ a, H1 a ≠ none → H4 a ≠ none := fun a e => by
    refine f.dm a ?_
    have := j.dm a e
    cases q : H a with
    | none => exact absurd q this
    | some o => rw [g a o q]; exact Option.some_ne_none o
  refine ⟨av, hD4, ra4, ⟨rsw, frj, shj, hsj, dmj, ⟨av, hD4, ra4⟩, Nat.le_succ_of_le j.len⟩, fun y v r => ?_⟩
  -- the element comes into the list
  have nDw : ¬ Ow (wipeE ρi3 vs) (wipe σ vs) Dd := fun ⟨k, l, z, e1, e2⟩ => by
    obtain ⟨hk, x', e3⟩ := hsj k l z e1
    have : Ow (wipeE ρ1 vs) (wipe σ vs) Dd := ⟨k, l, x', by rw [wipeE_out hk]; exact e3, e2⟩
    exact rs1.notW n ((rs1.wipe vs).owW this)
  have up : ∀ a o, a ≠ Dd → H4 a = some o → upd H4 Dd (.lst (av ++ [v])) a = some o := fun a o ne e => by rw [upd_ne ne]; exact e
  have stD : Stay (fun a => W0 a ∨ a = Dd) H4 (fun a => W0 a ∨ a = Dd) (upd H4 Dd (.lst (av ++ [v]))) := ⟨fun a o e w _ => up a o (fun z => w (.inr z)) e, fun a z => .inl z, rsw.dom⟩
  refine ⟨⟨rsw.len, fun k x e => ?_, fun k l x e => ?_, rsw.inj, fun a w => ?_, rsw.tab.write hD4⟩, fun a o e no nt => up a o (fun z => by rw [z, n] at e; cases e) (frj a o e no nt), shj, hsj, fun a e => ?_, ⟨av ++ [v], upd_same, ?_⟩, ?_⟩
  · obtain ⟨u, e1, r⟩ := rsw.val k x e
    exact ⟨u, e1, stD.rpD r⟩
  · obtain ⟨a, e1, w, r⟩ := rsw.own k l x e
    refine ⟨a, e1, w, stD.rpO r fun o _ ho => up a o (fun z => ?_) ho⟩
    subst z
    exact nDw ⟨k, l, x, e, e1⟩
  · by_cases ha : a = Dd
    · subst ha; exact ⟨_, upd_same, trivial⟩
    · obtain ⟨o, e, m⟩ := rsw.dom a w
      exact ⟨o, up a o ha e, m⟩
  · by_cases ha : a = Dd
    · subst ha; exact absurd n e
    · rw [upd_ne ha]; exact dmj a e
  · exact (stD.rpA ra4).append (.cons (stD.rp r) .nil)
  · rw [List.length_append]
    have := j.len
    simp only [List.length_cons, List.length_nil]
    omega
/-- behind the last turn -/
theorem JB.done {ρ0 : Env} {H0 : Hp} (rs1 : RS K fa W0 ρ1 σ H1) (n : H1 Dd = none) (j : JB K fa W0 ρ1 σ vs H1 Dd i acc ρi H) :
    FxE K fa W0 ρ1 σ H1 (fun a => W0 a ∨ a = Dd) (backE ρ1 ρi vs) H ∧ ¬ Ow (backE ρ1 ρi vs) σ Dd := by
  have st := j.stay rs1 n
  have hl : ρi.length = ρ1.length := by rw [j.rs.len, wipe_length, ← rs1.len]
  have inn : ∀ {k : Nat} {s : Sl}, k ∈ vs → (backE ρ1 ρi vs)[k]? = some s → ρ1[k]? = some s := fun {k s} hk e => by
    have hlt : k < ρi.length := by
      have := (List.getElem?_eq_some_iff.mp e).1
      rwa [backE_len] at this
    rw [backE_in hk hlt hl] at e
    exact e
  have out : ∀ {k : Nat} {s : Sl}, k ∉ vs → (backE ρ1 ρi vs)[k]? = some s → ρi[k]? = some s := fun {k s} hk e => by rw [backE_out hk] at e; exact e
  have shb : ∀ (k : Nat) (l : Bool) (x : D), ρ1[k]? = some (Sl.own l x) → ∃ x', (backE ρ1 ρi vs)[k]? = some (Sl.own l x') := fun k l x e => by
    by_cases hk : k ∈ vs
    · have hlt : k < ρi.length := by rw [hl]; exact (List.getElem?_eq_some_iff.mp e).1
      exact ⟨x, by rw [backE_in hk hlt hl]; exact e⟩
    · obtain ⟨x', e'⟩ := j.sh k l x hk e
      exact ⟨x', by rw [backE_out hk]; exact e'⟩
  have hsb : ∀ (k : Nat) (l : Bool) (x : D), (backE ρ1 ρi vs)[k]? = some (Sl.own l x) → ∃ x', ρ1[k]? = some (Sl.own l x') := fun k l x e => by
    by_cases hk : k ∈ vs
    · exact ⟨x, inn hk e⟩
    · exact (j.hs k l x (out hk e)).2
  have sw : ∀ {k : Nat}, k ∉ vs → (wipe σ vs)[k]? = σ[k]? := fun hk => wipe_out' hk
  have fin : FxE K fa W0 ρ1 σ H1 (fun a => W0 a ∨ a = Dd) (backE ρ1 ρi vs) H := by
    refine ⟨⟨by rw [backE_len, hl]; exact rs1.len, fun k x e => ?_, fun k l x e => ?_, fun k k' l l' x x' a e1 e2 e3 e4 => ?_, j.rs.dom, j.rs.tab⟩, fun a o e no nt => j.fr a o e (fun z => no (Ow.wipe rs1 z)) nt, shb, hsb, fun a w => .inl w, fun a z => z.elim .inl fun z => .inr (by rw [z]; exact n), j.dm⟩
    · by_cases hk : k ∈ vs
      · obtain ⟨v, e1, r⟩ := rs1.val k x (inn hk e)
        exact ⟨v, e1, st.rpD r⟩
      · obtain ⟨v, e1, r⟩ := j.rs.val k x (out hk e)
        rw [sw hk] at e1
        exact ⟨v, e1, r⟩
    · by_cases hk : k ∈ vs
      · have e' := inn hk e
        obtain ⟨a, e1, w, r⟩ := rs1.own k l x e'
        refine ⟨a, e1, .inl w, st.rpO r fun o nt ho => j.fr a o ho (fun z => ?_) nt⟩
        obtain ⟨k', l', x', e2, e3⟩ := z
        have hk' : k' ∉ vs := fun hk' => by
          have hlt : k' < ρ1.length := by
            have := (List.getElem?_eq_some_iff.mp e2).1
            rwa [wipeE_len] at this
          rw [wipeE_in hk' hlt] at e2
          cases e2
        rw [wipeE_out hk'] at e2
        rw [sw hk'] at e3
        have := rs1.inj k k' l l' x x' a e' e2 e1 e3
        subst this
        exact hk' hk
      · obtain ⟨a, e1, w, r⟩ := j.rs.own k l x (out hk e)
        rw [sw hk] at e1
        exact ⟨a, e1, w, r⟩
    · obtain ⟨y, q1⟩ := hsb k l x e1
      obtain ⟨y', q2⟩ := hsb k' l' x' e2
      exact rs1.inj k k' l l' y y' a q1 q2 e3 e4
  refine ⟨fin, fun z => ?_⟩
  have := (fin.owIff Dd).mp z
  exact rs1.notW n (rs1.owW this)
/-- ahead of the first turn -/
theorem JB.start (rs1 : RS K fa W0 ρ1 σ H1) (n : H1 Dd = none) : JB K fa W0 ρ1 σ vs H1 Dd 0 [] (wipeE ρ1 vs) (upd H1 Dd (.lst [])) := by
  have g := grow_upd (o := .lst []) n
  refine ⟨(FxE.own (xs := []) (rs1.wipe vs) n).rs, fun a o e _ _ => g a o e, fun k l x hk e => ⟨x, by rw [wipeE_out hk]; exact e⟩, fun k l x e => ?_, fun a e => ?_, ⟨[], upd_same, .nil⟩, Nat.le_refl _⟩
  · have hk : k ∉ vs := fun hk => by
      have hlt : k < ρ1.length := by
        have := (List.getElem?_eq_some_iff.mp e).1
        rwa [wipeE_len] at this
      rw [wipeE_in hk hlt] at e
      cases e
    rw [wipeE_out hk] at e
    exact ⟨hk, x, e⟩
  · cases q : H1 a with
    | none => exact absurd q e
    | some o => rw [g a o q]; exact Option.some_ne_none o
end
end Mp

set_option maxRecDepth 100000
set_option maxHeartbeats 4000000
/-! Mp12: list comprehensions as expressions. -/
namespace Mp
open PySem PySem.Spec PyProof.Rows L2

abbrev WF : WX := fun _ _ _ _ => False
theorem PTs.mono {X : Cx} {e : List Expr} {t t' : TT} (h : PTs X e t) (hi : ∀ σ H Q, t' σ H Q → t σ H Q) : PTs X e t' := ⟨fun pins s σ H Q I q => h.run pins s σ H Q I (hi _ _ _ q)⟩

section
variable {X : Cx} {fa : FT} {ca : FA} {Wx : WX} {elt tg iter : Expr} {ifs : List Expr} {scope : Scope} {own : List (Str × Nat)} {pos : Pos} {tgT : Tg} {ti : Env → R (List D)} {tc : Env → R Bool} {te : Env → R RV}
theorem comp_read {K : PySem.W.Frag} {C CF : Ctx} (hC : C.K = K ∧ CF.K = K ∧ CF.fa = C.fa ∧ CF.Wx = WF) (hsub : ∀ i ∈ tgT.ix, i ∈ own.map (·.2)) (σ : L2.St) (H : Hp) (Q : VK)
    (h : rd C (fun ρ => (ti ρ).bind fun items ρ1 => compE (own.map (·.2)) tgT tc te items ρ1) σ H Q) :
    tLc (rdI C ti) (gTg CF tgT) (rdT CF tc) (rd CF te) (own.map (·.2)) σ H Q := by
  obtain ⟨Cc, hK2, hfa, hWx⟩ := hC
  obtain ⟨K', fa', ca', Wx'⟩ := C
  obtain ⟨K'', fa'', ca'', Wx''⟩ := CF
  simp only at Cc hK2 hfa hWx
  subst Cc hK2 hfa hWx
  obtain ⟨W0, ρ0, rs0, h⟩ := h
  refine ⟨W0, ρ0, rs0, ?_⟩
  have h : Oc ⟨K'', fa'', ca', Wx'⟩ W0 ρ0 σ H Q ((ti ρ0).bind fun items ρ1 => compE (own.map (·.2)) tgT tc te items ρ1) := h
  cases e : ti ρ0 with
  | ex e' ρ' => rw [e] at h; exact h
  | bad => rw [e] at h; exact h.elim
  | ok items ρ1 =>
    rw [e] at h
    have h : Oc ⟨K'', fa'', ca', Wx'⟩ W0 ρ0 σ H Q (compE (own.map (·.2)) tgT tc te items ρ1) := h
    intro W1 J H1 f1 hJ Dd hD
    generalize own.map (·.2) = vs at *
    obtain ⟨hlen, hit⟩ := hJ
    have rs1 := f1.rs
    unfold compE at h
    cases ec : compL vs tgT tc te items [] (wipeE ρ1 vs) with
    | ex e' ρ' => rw [ec] at h; exact h.elim
    | bad => rw [ec] at h; exact h.elim
    | ok accF ρF =>
      rw [ec] at h
      have h : Oc ⟨K'', fa'', ca', Wx'⟩ W0 ρ0 σ H Q (.ok (.fr (.d (.list accF))) (backE ρ1 ρF vs)) := h
      refine ⟨fun i m Hi => m + i = items.length ∧ ∃ ρi acc, JB K'' fa'' W1 ρ1 σ vs H1 Dd i acc ρi Hi ∧ compL vs tgT tc te (items.drop i) acc ρi = .ok accF ρF,
        ⟨items.length, by omega, wipeE ρ1 vs, [], JB.start rs1 hD, by rw [List.drop_zero]; exact ec⟩, fun i m Hi hw => ?_⟩
      obtain ⟨hm, ρi, acc, jb, el⟩ := hw
      have st := jb.stay rs1 hD
      obtain ⟨hgo, hstop⟩ := hit _ Hi st jb.rs.dom
      by_cases hi : i < items.length
      · refine .inr ?_
        have hx : items[i]? = some items[i] := List.getElem?_eq_getElem hi
        obtain ⟨go, hy⟩ := hgo i _ hx
        refine ⟨go, fun H' => ∃ ρi acc, JB K'' fa'' W1 ρ1 σ vs H1 Dd (i + 1) acc ρi H' ∧ compL vs tgT tc te (items.drop (i + 1)) acc ρi = .ok accF ρF, fun H' ⟨ρ', acc', jb', el'⟩ => ⟨m - 1, by omega, by omega, ρ', acc', jb', el'⟩, fun v H' y => ?_⟩
        obtain ⟨g, rv⟩ := hy v H' y
        rw [List.drop_eq_getElem_cons hi] at el
        unfold compL at el
        cases es : setTg tgT items[i] ρi with
        | none => rw [es] at el; cases el
        | some ρi1 =>
          rw [es] at el
          simp only at el
          refine ⟨fun a => W1 a ∨ a = Dd, ρi, items[i], ρi1, jb.rs.grow g, rv, es, fun σ2 so f2 => ⟨wipe_eq so hsub, ?_⟩⟩
          refine ⟨_, ρi1, f2.rs, ?_⟩
          cases ec2 : tc ρi1 with
          | ex _ _ => rw [ec2] at el; cases el
          | bad => rw [ec2] at el; cases el
          | ok b ρi2 =>
            rw [ec2] at el
            intro W3 H3 f3
            have f3S := FxE.shrink f2.rs f3
            cases b with
            | false =>
              simp only at el
              refine iteF ?_
              obtain ⟨av, _, _, jb', _⟩ := jb.turn rs1 hD hsub g es so f2 f3S
              exact ⟨_, acc, jb', el⟩
            | true =>
              simp only at el
              refine iteT ?_
              refine ⟨_, ρi2, f3S.rs, ?_⟩
              cases ee : te ρi2 with
              | ex _ _ => rw [ee] at el; cases el
              | bad => rw [ee] at el; cases el
              | ok r ρi3 =>
                rw [ee] at el
                simp only at el
                intro W4 v4 H4 f4 q4
                have f4S := FxE.shrink f3S.rs f4
                cases ed : datas [r] with
                | none => rw [ed] at el; cases el
                | some ys =>
                  cases ys with
                  | nil => rw [ed] at el; cases el
                  | cons y ys =>
                    cases ys with
                    | cons _ _ => rw [ed] at el; cases el
                    | nil =>
                      rw [ed] at el
                      simp only at el
                      have ra : RpA K'' (fun a => W1 a ∨ a = Dd) H4 [y] [v4] := RpRs.datas (.cons q4 (fun _ _ z => by cases z) .nil) ed f4.wm f3S.rs.ex f4.rs.dom
                      obtain ⟨av, hav, rav, jb', jb2⟩ := jb.turn rs1 hD hsub g es so f2 (f3S.trans f4S)
                      cases ra with
                      | cons ry _ =>
                        have jb3 := jb2 y v4 ry
                        refine ⟨av, hav, ?_, _, _, jb3, el⟩
                        have l1 := rav.length
                        have l2 := jb.len
                        rw [sizeLine_eq]
                        omega
      · have ei : i = items.length := by omega
        refine .inl ⟨hstop i (by omega), ?_⟩
        subst ei
        rw [List.drop_length] at el
        unfold compL at el
        cases el
        obtain ⟨fd, nD⟩ := jb.done (ρ0 := ρ0) (H0 := H) rs1 hD
        obtain ⟨av, hav, rav⟩ := jb.here
        refine h _ _ _ (f1.trans fd) ⟨Dd, rfl, .inr rfl, fun w => ?_, fun z => ?_, av, hav, ?_, rav⟩
        · exact f1.dm _ w hD
        · exact nD z
        · have l1 := rav.length
          have l2 := jb.len
          rw [sizeLine_eq]
          omega
theorem ex_comp (hc : X.calm = true) (nd : X.N.Nodup) (hi : PI X tg iter (rdI (cx X fa ca Wx) ti)) (ok : BlkOk X.N X.env.scope scope own) (hsub : ∀ i ∈ tgT.ix, i ∈ own.map (·.2)) (hp : plainE iter = true)
    (hg : ∀ (s : Shared) (H : Hp) (C : Addr) (cl : List (Str × Addr)) (fp : List Addr), PG (X.blk s H scope (compEnvC scope cl C X.env) fp) tg (gTg (cx X fa ca WF) tgT))
    (ht : ∀ (s : Shared) (H : Hp) (C : Addr) (cl : List (Str × Addr)) (fp : List Addr), PTs (X.blk s H scope (compEnvC scope cl C X.env) fp) ifs (rdT (cx X fa ca WF) tc))
    (he : ∀ (s : Shared) (H : Hp) (C : Addr) (cl : List (Str × Addr)) (fp : List Addr), PE (X.blk s H scope (compEnvC scope cl C X.env) fp) elt (rd (cx X fa ca WF) te)) :
    PE X (.ListComp elt [⟨tg, iter, ifs, 0⟩] scope pos) (rd (cx X fa ca Wx) fun ρ => (ti ρ).bind fun items ρ1 => compE (own.map (·.2)) tgT tc te items ρ1) :=
  PE.mono (pe_lc hc nd hi ok hg ht he (plain_fold hp _)) fun σ H Q h => comp_read (K := X.K) (C := cx X fa ca Wx) (CF := cx X fa ca WF) ⟨rfl, rfl, rfl, rfl⟩ hsub σ H Q h
end
end Mp

set_option maxRecDepth 100000
set_option maxHeartbeats 1000000
/-! MpC: list comprehensions with two fors. -/
namespace Mp
open PySem PySem.Spec PyProof.Rows L2

/-- while a comprehension's list at Dd is built; the slots stand at σc -/
structure JX (K : PySem.W.Frag) (fa : FT) (W0 : Wd) (ρ1 : Env) (σ : L2.St) (vs : List Nat) (H1 : Hp) (Dd : Addr) (n : Nat) (acc : List P) (ρc : Env) (σc : L2.St) (H : Hp) : Prop where
  rs : RS K fa (fun a => W0 a ∨ a = Dd) ρc σc H
  fr : ∀ a o, H1 a = some o → ¬ Ow (wipeE ρ1 vs) (wipe σ vs) a → NT o → H a = some o
  ow : ∀ a, Ow ρc σc a → Ow (wipeE ρ1 vs) (wipe σ vs) a
  sh : ∀ (j : Nat) (l : Bool) (x : D), j ∉ vs → ρ1[j]? = some (Sl.own l x) → ∃ x', ρc[j]? = some (Sl.own l x')
  hs : ∀ (j : Nat) (l : Bool) (x : D), ρc[j]? = some (Sl.own l x) → j ∉ vs ∧ ∃ x', ρ1[j]? = some (Sl.own l x')
  dm : ∀ a, H1 a ≠ none → H a ≠ none
  here : ∃ av, H Dd = some (.lst av) ∧ RpA K (fun a => W0 a ∨ a = Dd) H acc av
  len : acc.length ≤ n
section
variable {K : PySem.W.Frag} {fa : FT} {W0 : Wd} {ρ1 ρc ρc1 ρc2 : Env} {σ σc σ2 : L2.St} {vs vs' : List Nat} {H1 H H' H2 : Hp} {Dd : Addr} {n : Nat} {acc : List P}
theorem JX.of (rs1 : RS K fa W0 ρ1 σ H1) (j : JB K fa W0 ρ1 σ vs H1 Dd n acc ρc H) : JX K fa W0 ρ1 σ vs H1 Dd n acc ρc (wipe σ vs) H := ⟨j.rs, j.fr, fun _ z => j.ow rs1 z, j.sh, j.hs, j.dm, j.here, j.len⟩
theorem JX.to (j : JX K fa W0 ρ1 σ vs H1 Dd n acc ρc (wipe σ vs) H) : JB K fa W0 ρ1 σ vs H1 Dd n acc ρc H := ⟨j.rs, j.fr, j.sh, j.hs, j.dm, j.here, j.len⟩
theorem JX.notD (rs1 : RS K fa W0 ρ1 σ H1) (nd : H1 Dd = none) (j : JX K fa W0 ρ1 σ vs H1 Dd n acc ρc σc H) : ¬ Ow ρc σc Dd := fun o => rs1.notW nd ((rs1.wipe vs).owW (j.ow _ o))
theorem JX.stay (rs1 : RS K fa W0 ρ1 σ H1) (nd : H1 Dd = none) (j : JX K fa W0 ρ1 σ vs H1 Dd n acc ρc σc H) : Stay W0 H1 (fun a => W0 a ∨ a = Dd) H :=
  ⟨fun a o e w nt => j.fr a o e (fun z => w ((rs1.wipe vs).owW z)) nt, fun a z => z.elim .inl fun z => .inr (by rw [z]; exact nd), rs1.dom⟩
theorem JX.mono {m : Nat} (j : JX K fa W0 ρ1 σ vs H1 Dd n acc ρc σc H) (h : n ≤ m) : JX K fa W0 ρ1 σ vs H1 Dd m acc ρc σc H := ⟨j.rs, j.fr, j.ow, j.sh, j.hs, j.dm, j.here, Nat.le_trans j.len h⟩
/-- the heap grows -/
theorem JX.grow (j : JX K fa W0 ρ1 σ vs H1 Dd n acc ρc σc H) (g : ∀ a o, H a = some o → H' a = some o) : JX K fa W0 ρ1 σ vs H1 Dd n acc ρc σc H' := by
  obtain ⟨av, h1, h2⟩ := j.here
  refine ⟨j.rs.grow g, fun a o e no nt => g a o (j.fr a o e no nt), j.ow, j.sh, j.hs, fun a e => ?_, ⟨av, g _ _ h1, Stay.rpA (Stay.grow j.rs.dom g) h2⟩, j.len⟩
  have := j.dm a e
  cases q : H a with
  | none => exact absurd q this
  | some o => rw [g a o q]; exact Option.some_ne_none o
/-- along an expression -/
theorem JX.expr (rs1 : RS K fa W0 ρ1 σ H1) (nd : H1 Dd = none) (j : JX K fa W0 ρ1 σ vs H1 Dd n acc ρc σc H) (f : FxE K fa (fun a => W0 a ∨ a = Dd) ρc σc H (fun a => W0 a ∨ a = Dd) ρc1 H') : JX K fa W0 ρ1 σ vs H1 Dd n acc ρc1 σc H' := by
  obtain ⟨av, h1, h2⟩ := j.here
  refine ⟨f.rs, fun a o e no nt => f.fr a o (j.fr a o e no nt) (fun z => no (j.ow _ z)) nt, fun a z => j.ow _ ((f.owIff a).mp z), fun k l x hk e => ?_, fun k l x e => ?_, fun a e => f.dm a (j.dm a e), ⟨av, f.fr _ _ h1 (j.notD rs1 nd) nt_lst, Stay.rpA (f.stay j.rs) h2⟩, j.len⟩
  · obtain ⟨x1, e1⟩ := j.sh k l x hk e
    exact f.sh k l x1 e1
  · obtain ⟨x1, e1⟩ := f.hs k l x e
    exact j.hs k l x1 e1
/-- a target takes a thing -/
theorem JX.target (rs1 : RS K fa W0 ρ1 σ H1) (nd : H1 Dd = none) {tg : Tg} {x : D} (hsub : ∀ i ∈ tg.ix, i ∈ vs) (j : JX K fa W0 ρ1 σ vs H1 Dd n acc ρc σc H) (es : setTg tg x ρc = some ρc1) (so : SetOn tg σc σ2)
    (f : Fx K fa (fun a => W0 a ∨ a = Dd) ρc σc H (fun a => W0 a ∨ a = Dd) ρc1 σ2 H) : JX K fa W0 ρ1 σ vs H1 Dd n acc ρc1 σ2 H := by
  have ow1 : ∀ a, Ow ρc1 σ2 a → Ow ρc σc a := fun a z => by
    rcases f.ow a z with q | q
    · exact q
    · obtain ⟨k, l, y, e1, e2⟩ := z
      obtain ⟨b, e3, w, r⟩ := f.rs.own k l y e1
      rw [e2] at e3
      cases e3
      obtain ⟨o, eo, _⟩ := r.there
      rw [q] at eo
      cases eo
  have out : ∀ k, k ∉ vs → ρc1[k]? = ρc[k]? := fun k hk => setTg_out es k fun z => hk (hsub k z)
  refine ⟨f.rs, j.fr, fun a z => j.ow a (ow1 a z), fun k l y hk e => ?_, fun k l y e => ?_, j.dm, j.here, j.len⟩
  · rw [out k hk]
    exact j.sh k l y hk e
  · -- an owned slot is none of the block's
    obtain ⟨b, e3, w, r⟩ := f.rs.own k l y e
    obtain ⟨k', l', y', e4, e5⟩ := ow1 b ⟨k, l, y, e, e3⟩
    obtain ⟨hk', _⟩ := j.hs k' l' y' e4
    have e6 : ρc1[k']? = some (Sl.own l' y') := by rw [out k' hk']; exact e4
    have e7 : σ2[k']? = some (some (V.ref b)) := by rw [so.2 k' fun z => hk' (hsub k' z)]; exact e5
    have := f.rs.inj k k' l l' y y' b e e6 e3 e7
    subst this
    rw [out k hk'] at e
    exact j.hs k l y e
/-- the block's own slots are wiped -/
theorem JX.wiped (j : JX K fa W0 ρ1 σ vs H1 Dd n acc ρc σc H) (hv : ∀ i ∈ vs', i ∈ vs) : JX K fa W0 ρ1 σ vs H1 Dd n acc (wipeE ρc vs') (wipe σc vs') H := by
  refine ⟨j.rs.wipe vs', j.fr, fun a z => j.ow a (Ow.wipe j.rs z), fun k l x hk e => ?_, fun k l x e => ?_, j.dm, j.here, j.len⟩
  · obtain ⟨x1, e1⟩ := j.sh k l x hk e
    exact ⟨x1, by rw [wipeE_out fun z => hk (hv k z)]; exact e1⟩
  · have hk : k ∉ vs' := fun hk => by
      have hlt : k < ρc.length := by
        have := (List.getElem?_eq_some_iff.mp e).1
        rwa [wipeE_len] at this
      rw [wipeE_in hk hlt] at e
      cases e
    rw [wipeE_out hk] at e
    exact j.hs k l x e
/-- a thing comes into the list -/
theorem JX.append (rs1 : RS K fa W0 ρ1 σ H1) (nd : H1 Dd = none) (j : JX K fa W0 ρ1 σ vs H1 Dd n acc ρc σc H) {av : List V} (hD : H Dd = some (.lst av)) {y : P} {v : V} (r : Rp K (fun a => W0 a ∨ a = Dd) H y v) :
    JX K fa W0 ρ1 σ vs H1 Dd (n + 1) (acc ++ [y]) ρc σc (upd H Dd (.lst (av ++ [v]))) := by
  have nDo := j.notD rs1 nd
  have up : ∀ a o, a ≠ Dd → H a = some o → upd H Dd (.lst (av ++ [v])) a = some o := fun a o ne e => by rw [upd_ne ne]; exact e
  have s : Stay (fun a => W0 a ∨ a = Dd) H (fun a => W0 a ∨ a = Dd) (upd H Dd (.lst (av ++ [v]))) := ⟨fun a o e w _ => up a o (fun z => w (.inr z)) e, fun a z => .inl z, j.rs.dom⟩
  obtain ⟨av', h1, h2⟩ := j.here
  rw [hD] at h1
  cases h1
  refine ⟨⟨j.rs.len, fun k x e => ?_, fun k l x e => ?_, j.rs.inj, fun a w => ?_, j.rs.tab.write hD⟩, fun a o e no nt => up a o (fun z => by rw [z, nd] at e; cases e) (j.fr a o e no nt), j.ow, j.sh, j.hs, fun a e => ?_, ⟨av ++ [v], upd_same, (s.rpA h2).append (.cons (s.rp r) .nil)⟩, ?_⟩
  · obtain ⟨u, e1, q⟩ := j.rs.val k x e
    exact ⟨u, e1, s.rpD q⟩
  · obtain ⟨a, e1, w, q⟩ := j.rs.own k l x e
    exact ⟨a, e1, w, s.rpO q fun o _ ho => up a o (fun z => by subst z; exact nDo ⟨k, l, x, e, e1⟩) ho⟩
  · by_cases ha : a = Dd
    · subst ha; exact ⟨_, upd_same, trivial⟩
    · obtain ⟨o, e, m⟩ := j.rs.dom a w
      exact ⟨o, up a o ha e, m⟩
  · by_cases ha : a = Dd
    · subst ha; exact absurd nd e
    · rw [upd_ne ha]; exact j.dm a e
  · rw [List.length_append]
    have := j.len
    simp only [List.length_cons, List.length_nil]
    omega
end
theorem wipe_sub {σ : L2.St} {vs vs' : List Nat} (h : ∀ i ∈ vs', i ∈ vs) : wipe (wipe σ vs') vs = wipe σ vs := by
  apply List.ext_getElem?
  intro i
  by_cases hi : i ∈ vs
  · by_cases hl : i < σ.length
    · rw [wipe_in' hi (by rw [wipe_length]; exact hl), wipe_in' hi hl]
    · rw [List.getElem?_eq_none (by rw [wipe_length, wipe_length]; omega), List.getElem?_eq_none (by rw [wipe_length]; omega)]
  · rw [wipe_out' hi, wipe_out' hi, wipe_out' fun z => hi (h i z)]

theorem Stay.trans {W W1 W2 : Wd} {H H1 H2 : Hp} (s : Stay W H W1 H1) (t : Stay W1 H1 W2 H2) (dm : ∀ a, H a ≠ none → H1 a ≠ none) : Stay W H W2 H2 := by
  refine ⟨fun a o e n nt => t.k a o (s.k a o e n nt) (fun z => ?_) nt, fun a z => ?_, s.m⟩
  · rcases s.w a z with y | y
    · exact n y
    · rw [e] at y; cases y
  · rcases t.w a z with y | y
    · exact s.w a y
    · cases q : H a with
      | none => exact .inr rfl
      | some o => exact absurd y (dm a (by rw [q]; exact Option.some_ne_none o))
theorem compL_len {own : List Nat} {tg : Tg} {c : Env → R Bool} {e : Env → R RV} : ∀ {xs : List D} {acc acc' : List P} {ρ ρ' : Env}, compL own tg c e xs acc ρ = .ok acc' ρ' → acc.length ≤ acc'.length
  | [], acc, acc', ρ, ρ', h => by unfold compL at h; cases h; exact Nat.le_refl _
  | x :: xs, acc, acc', ρ, ρ', h => by
    unfold compL at h
    split at h
    · cases h
    · split at h
      · split at h
        · split at h
          · have := compL_len h
            rw [List.length_append] at this
            omega
          · cases h
        · cases h
      · exact compL_len h
      · cases h
theorem compL2_len {own own1 : List Nat} {tg tg1 : Tg} {c c1 : Env → R Bool} {it1 : Env → R (List D)} {e : Env → R RV} : ∀ {xs : List D} {acc acc' : List P} {ρ ρ' : Env}, compL2 own own1 tg c it1 tg1 c1 e xs acc ρ = .ok acc' ρ' → acc.length ≤ acc'.length
  | [], acc, acc', ρ, ρ', h => by unfold compL2 at h; cases h; exact Nat.le_refl _
  | x :: xs, acc, acc', ρ, ρ', h => by
    unfold compL2 at h
    split at h
    · cases h
    · split at h
      · split at h
        · split at h
          · rename_i h1
            exact Nat.le_trans (compL_len h1) (compL2_len h)
          · cases h
        · cases h
      · exact compL2_len h
      · cases h
theorem dm_grow {H H' : Hp} (g : ∀ a o, H a = some o → H' a = some o) : ∀ a, H a ≠ none → H' a ≠ none := fun a e => by
  cases q : H a with
  | none => exact absurd q e
  | some o => rw [g a o q]; exact Option.some_ne_none o
section
variable {X : Cx} {fa : FT} {ca : FA} {Wx : WX} {elt tg iter tg1 iter1 : Expr} {ifs ifs1 : List Expr} {scope : Scope} {own : List (Str × Nat)} {vs1 : List Nat} {pos : Pos} {tgT tgT1 : Tg} {ti ti1 : Env → R (List D)} {tc tc1 : Env → R Bool} {te : Env → R RV}
theorem comp_read2 {C CF : Ctx} (hC : CF.K = C.K ∧ CF.fa = C.fa ∧ CF.Wx = WF) (hsub : ∀ i ∈ tgT.ix, i ∈ own.map (·.2)) (hsub1 : ∀ i ∈ tgT1.ix, i ∈ vs1) (hv : ∀ i ∈ vs1, i ∈ own.map (·.2)) (σ : L2.St) (H : Hp) (Q : VK)
    (h : rd C (fun ρ => (ti ρ).bind fun items ρ1 => compE2 (own.map (·.2)) vs1 tgT tc ti1 tgT1 tc1 te items ρ1) σ H Q) :
    tLc2 (rdI C ti) (gTg CF tgT) (rdT CF tc) (rdI CF ti1) (gTg CF tgT1) (rdT CF tc1) (rd CF te) (own.map (·.2)) vs1 σ H Q := by
  obtain ⟨hK, hfa, hWx⟩ := hC
  obtain ⟨K, fa, ca, Wx⟩ := C
  obtain ⟨K', fa', ca', Wx'⟩ := CF
  simp only at hK hfa hWx
  subst hK hfa hWx
  obtain ⟨W0, ρ0, rs0, h⟩ := h
  refine ⟨W0, ρ0, rs0, ?_⟩
  have h : Oc ⟨K', fa', ca, Wx⟩ W0 ρ0 σ H Q ((ti ρ0).bind fun items ρ1 => compE2 (own.map (·.2)) vs1 tgT tc ti1 tgT1 tc1 te items ρ1) := h
  cases e : ti ρ0 with
  | ex e' ρ' => rw [e] at h; exact h
  | bad => rw [e] at h; exact h.elim
  | ok items ρ1 =>
    rw [e] at h
    have h : Oc ⟨K', fa', ca, Wx⟩ W0 ρ0 σ H Q (compE2 (own.map (·.2)) vs1 tgT tc ti1 tgT1 tc1 te items ρ1) := h
    intro W1 J H1 f1 hJ Dd hD
    generalize own.map (·.2) = vs at *
    obtain ⟨hlen, hit⟩ := hJ
    have rs1 := f1.rs
    unfold compE2 at h
    cases ec : compL2 vs vs1 tgT tc ti1 tgT1 tc1 te items [] (wipeE ρ1 vs) with
    | ex e' ρ' => rw [ec] at h; exact h.elim
    | bad => rw [ec] at h; exact h.elim
    | ok accF ρF =>
      rw [ec] at h
      simp only at h
      split at h
      case isFalse => exact h.elim
      rename_i hmost
      have h : Oc ⟨K', fa', ca, Wx⟩ W0 ρ0 σ H Q (.ok (.fr (.d (.list accF))) (backE ρ1 ρF vs)) := h
      refine ⟨fun i m Hi => m + i = items.length ∧ ∃ n ρi acc, JX K' fa' W1 ρ1 σ vs H1 Dd n acc ρi (wipe σ vs) Hi ∧ compL2 vs vs1 tgT tc ti1 tgT1 tc1 te (items.drop i) acc ρi = .ok accF ρF,
        ⟨items.length, by omega, 0, wipeE ρ1 vs, [], JX.of rs1 (JB.start rs1 hD), by rw [List.drop_zero]; exact ec⟩, fun i m Hi hw => ?_⟩
      obtain ⟨hm, n, ρi, acc, jb, el⟩ := hw
      have st := jb.stay rs1 hD
      obtain ⟨hgo, hstop⟩ := hit _ Hi st jb.rs.dom
      by_cases hi : i < items.length
      · refine .inr ?_
        have hx : items[i]? = some items[i] := List.getElem?_eq_getElem hi
        obtain ⟨go, hy⟩ := hgo i _ hx
        refine ⟨go, fun H' => ∃ n ρi acc, JX K' fa' W1 ρ1 σ vs H1 Dd n acc ρi (wipe σ vs) H' ∧ compL2 vs vs1 tgT tc ti1 tgT1 tc1 te (items.drop (i + 1)) acc ρi = .ok accF ρF, fun H' ⟨n', ρ', acc', jb', el'⟩ => ⟨m - 1, by omega, by omega, n', ρ', acc', jb', el'⟩, fun v H' y => ?_⟩
        obtain ⟨g, rv⟩ := hy v H' y
        rw [List.drop_eq_getElem_cons hi] at el
        unfold compL2 at el
        cases es : setTg tgT items[i] ρi with
        | none => rw [es] at el; cases el
        | some ρi1 =>
          rw [es] at el
          simp only at el
          have jg := jb.grow g
          refine ⟨fun a => W1 a ∨ a = Dd, ρi, items[i], ρi1, jg.rs, rv, es, fun σ2 so f2 => ⟨wipe_eq so hsub, ?_⟩⟩
          have jt := jg.target rs1 hD hsub es so f2
          have ew := wipe_eq so hsub
          refine ⟨_, ρi1, f2.rs, ?_⟩
          cases ec2 : tc ρi1 with
          | ex _ _ => rw [ec2] at el; cases el
          | bad => rw [ec2] at el; cases el
          | ok b ρi2 =>
            rw [ec2] at el
            intro W3 H3 f3
            have f3S := FxE.shrink f2.rs f3
            have jc := jt.expr rs1 hD f3S
            cases b with
            | false =>
              simp only at el
              refine iteF ?_
              have jw := jc.wiped (vs' := vs) fun _ z => z
              rw [ew] at jw
              exact ⟨n, _, acc, jw, el⟩
            | true =>
              simp only at el
              refine iteT ?_
              refine ⟨_, ρi2, f3S.rs, ?_⟩
              cases ei : ti1 ρi2 with
              | ex _ _ => rw [ei] at el; cases el
              | bad => rw [ei] at el; cases el
              | ok items1 ρi3 =>
                rw [ei] at el
                simp only at el
                intro W4 J1 H4 f4 hJ1
                obtain ⟨hlen1, hit1⟩ := hJ1
                have f4S := FxE.shrink f3S.rs f4
                have ji := jc.expr rs1 hD f4S
                cases ec4 : compL vs1 tgT1 tc1 te items1 acc (wipeE ρi3 vs1) with
                | ex _ _ => rw [ec4] at el; cases el
                | bad => rw [ec4] at el; cases el
                | ok accI ρI =>
                  rw [ec4] at el
                  simp only at el
                  have jw := ji.wiped (vs' := vs1) hv
                  have stI : Stay W4 H4 (fun a => W1 a ∨ a = Dd) H4 := ⟨fun _ _ e _ _ => e, fun a z => .inl (f4.wm a z), f4.rs.dom⟩
                  refine ⟨fun j k Hj => k + j = items1.length ∧ Stay W4 H4 (fun a => W1 a ∨ a = Dd) Hj ∧ (∀ a, H4 a ≠ none → Hj a ≠ none) ∧ ∃ n ρj acc, JX K' fa' W1 ρ1 σ vs H1 Dd n acc ρj (wipe σ2 vs1) Hj ∧ compL vs1 tgT1 tc1 te (items1.drop j) acc ρj = .ok accI ρI,
                    ⟨items1.length, by omega, stI, fun _ e => e, n, _, acc, jw, by rw [List.drop_zero]; exact ec4⟩, fun j k Hj hw => ?_⟩
                  obtain ⟨hk, stJ, dmJ, n1, ρj, accj, jj, elj⟩ := hw
                  obtain ⟨hgo1, hstop1⟩ := hit1 _ Hj stJ jj.rs.dom
                  by_cases hj : j < items1.length
                  · refine .inr ?_
                    have hx1 : items1[j]? = some items1[j] := List.getElem?_eq_getElem hj
                    obtain ⟨go1, hy1⟩ := hgo1 j _ hx1
                    refine ⟨go1, fun H' => Stay W4 H4 (fun a => W1 a ∨ a = Dd) H' ∧ (∀ a, H4 a ≠ none → H' a ≠ none) ∧ ∃ n ρj acc, JX K' fa' W1 ρ1 σ vs H1 Dd n acc ρj (wipe σ2 vs1) H' ∧ compL vs1 tgT1 tc1 te (items1.drop (j + 1)) acc ρj = .ok accI ρI, fun H' ⟨s', d', q⟩ => ⟨k - 1, by omega, by omega, s', d', q⟩, fun v1 H5 y1 => ?_⟩
                    obtain ⟨g1, rv1⟩ := hy1 v1 H5 y1
                    rw [List.drop_eq_getElem_cons hj] at elj
                    unfold compL at elj
                    cases es1 : setTg tgT1 items1[j] ρj with
                    | none => rw [es1] at elj; cases elj
                    | some ρj1 =>
                      rw [es1] at elj
                      simp only at elj
                      have jg1 := jj.grow g1
                      have s1 := stJ.trans (Stay.grow jj.rs.dom g1) dmJ
                      have d1 : ∀ a, H4 a ≠ none → H5 a ≠ none := fun a e => dm_grow g1 a (dmJ a e)
                      refine ⟨fun a => W1 a ∨ a = Dd, ρj, items1[j], ρj1, jg1.rs, rv1, es1, fun σ3 so1 f5 => ⟨wipe_eq so1 hsub1, ?_⟩⟩
                      have jt1 := jg1.target rs1 hD (fun i hi => hv i (hsub1 i hi)) es1 so1 f5
                      have ew1 := wipe_eq so1 hsub1
                      refine ⟨_, ρj1, f5.rs, ?_⟩
                      cases ec5 : tc1 ρj1 with
                      | ex _ _ => rw [ec5] at elj; cases elj
                      | bad => rw [ec5] at elj; cases elj
                      | ok b1 ρj2 =>
                        rw [ec5] at elj
                        intro W6 H6 f6
                        have f6S := FxE.shrink f5.rs f6
                        have jc1 := jt1.expr rs1 hD f6S
                        have s2 := s1.trans (f6S.stay jt1.rs) d1
                        have d2 : ∀ a, H4 a ≠ none → H6 a ≠ none := fun a e => f6S.dm a (d1 a e)
                        cases b1 with
                        | false =>
                          simp only at elj
                          refine iteF ?_
                          have jw1 := jc1.wiped (vs' := vs1) hv
                          rw [ew1] at jw1
                          exact ⟨s2, d2, n1, _, accj, jw1, elj⟩
                        | true =>
                          simp only at elj
                          refine iteT ?_
                          refine ⟨_, ρj2, f6S.rs, ?_⟩
                          cases ee : te ρj2 with
                          | ex _ _ => rw [ee] at elj; cases elj
                          | bad => rw [ee] at elj; cases elj
                          | ok r ρj3 =>
                            rw [ee] at elj
                            simp only at elj
                            intro W7 v7 H7 f7 q7
                            have f7S := FxE.shrink f6S.rs f7
                            have je := jc1.expr rs1 hD f7S
                            have s3 := s2.trans (f7S.stay jc1.rs) d2
                            have d3 : ∀ a, H4 a ≠ none → H7 a ≠ none := fun a e => f7S.dm a (d2 a e)
                            cases ed : datas [r] with
                            | none => rw [ed] at elj; cases elj
                            | some ys =>
                              cases ys with
                              | nil => rw [ed] at elj; cases elj
                              | cons y ys =>
                                cases ys with
                                | cons _ _ => rw [ed] at elj; cases elj
                                | nil =>
                                  rw [ed] at elj
                                  simp only at elj
                                  have ra : RpA K' (fun a => W1 a ∨ a = Dd) H7 [y] [v7] := RpRs.datas (.cons q7 (fun _ _ z => by cases z) .nil) ed f7.wm f6S.rs.ex f7.rs.dom
                                  obtain ⟨av, hav, rav⟩ := je.here
                                  cases ra with
                                  | cons ry _ =>
                                    have ja := (je.append rs1 hD hav ry).wiped (vs' := vs1) hv
                                    rw [ew1] at ja
                                    have l1 := compL_len elj
                                    have l2 := compL2_len el
                                    rw [List.length_append, List.length_singleton] at l1
                                    have l3 := rav.length
                                    have up : ∀ a o, a ≠ Dd → H7 a = some o → upd H7 Dd (.lst (av ++ [v7])) a = some o := fun a o ne e => by rw [upd_ne ne]; exact e
                                    have sA : Stay (fun a => W1 a ∨ a = Dd) H7 (fun a => W1 a ∨ a = Dd) (upd H7 Dd (.lst (av ++ [v7]))) := ⟨fun a o e w _ => up a o (fun z => w (.inr z)) e, fun a z => .inl z, je.rs.dom⟩
                                    refine ⟨av, hav, by rw [sizeLine_eq]; omega, s3.trans sA d3, fun a e => ?_, _, _, _, ja, elj⟩
                                    by_cases ha : a = Dd
                                    · subst ha; rw [upd_same]; exact Option.some_ne_none _
                                    · rw [upd_ne ha]; exact d3 a e
                  · have ej : j = items1.length := by omega
                    refine .inl ⟨hstop1 j (by omega), ?_⟩
                    subst ej
                    rw [List.drop_length] at elj
                    unfold compL at elj
                    cases elj
                    have jw2 := jj.wiped (vs' := vs) fun _ z => z
                    rw [wipe_sub hv, ew] at jw2
                    exact ⟨n1, _, _, jw2, el⟩
      · have ei : i = items.length := by omega
        refine .inl ⟨hstop i (by omega), ?_⟩
        subst ei
        rw [List.drop_length] at el
        unfold compL2 at el
        cases el
        obtain ⟨fd, nD⟩ := jb.to.done (ρ0 := ρ0) (H0 := H) rs1 hD
        obtain ⟨av, hav, rav⟩ := jb.here
        refine h _ _ _ (f1.trans fd) ⟨Dd, rfl, .inr rfl, fun w => ?_, fun z => ?_, av, hav, ?_, rav⟩
        · exact f1.dm _ w hD
        · exact nD z
        · have l1 := rav.length
          rw [sizeLine_eq]
          omega
theorem ex_comp2 (hc : X.calm = true) (nd : X.N.Nodup) (hi : PI X tg iter (rdI (cx X fa ca Wx) ti)) (ok : BlkOk X.N X.env.scope scope own) (hsub : ∀ i ∈ tgT.ix, i ∈ own.map (·.2)) (hsub1 : ∀ i ∈ tgT1.ix, i ∈ vs1) (hv : ∀ i ∈ vs1, i ∈ own.map (·.2)) (hp : plainE iter = true) (hp1 : plainE iter1 = true)
    (hg : ∀ (s : Shared) (H : Hp) (C : Addr) (cl : List (Str × Addr)) (fp : List Addr), PG (X.blk s H scope (compEnvC scope cl C X.env) fp) tg (gTg (cx X fa ca WF) tgT))
    (ht : ∀ (s : Shared) (H : Hp) (C : Addr) (cl : List (Str × Addr)) (fp : List Addr), PTs (X.blk s H scope (compEnvC scope cl C X.env) fp) ifs (rdT (cx X fa ca WF) tc))
    (hi1 : ∀ (s : Shared) (H : Hp) (C : Addr) (cl : List (Str × Addr)) (fp : List Addr), PI (X.blk s H scope (compEnvC scope cl C X.env) fp) tg1 iter1 (rdI (cx X fa ca WF) ti1))
    (hg1 : ∀ (s : Shared) (H : Hp) (C : Addr) (cl : List (Str × Addr)) (fp : List Addr), PG (X.blk s H scope (compEnvC scope cl C X.env) fp) tg1 (gTg (cx X fa ca WF) tgT1))
    (ht1 : ∀ (s : Shared) (H : Hp) (C : Addr) (cl : List (Str × Addr)) (fp : List Addr), PTs (X.blk s H scope (compEnvC scope cl C X.env) fp) ifs1 (rdT (cx X fa ca WF) tc1))
    (he : ∀ (s : Shared) (H : Hp) (C : Addr) (cl : List (Str × Addr)) (fp : List Addr), PE (X.blk s H scope (compEnvC scope cl C X.env) fp) elt (rd (cx X fa ca WF) te)) :
    PE X (.ListComp elt [⟨tg, iter, ifs, 0⟩, ⟨tg1, iter1, ifs1, 0⟩] scope pos) (rd (cx X fa ca Wx) fun ρ => (ti ρ).bind fun items ρ1 => compE2 (own.map (·.2)) vs1 tgT tc ti1 tgT1 tc1 te items ρ1) :=
  PE.mono (pe_lc2 hc nd hi ok hv hg ht hi1 hg1 ht1 he (plain_fold hp _) (fun env => plain_fold hp1 env)) fun σ H Q h => comp_read2 (C := cx X fa ca Wx) (CF := cx X fa ca WF) ⟨rfl, rfl, rfl⟩ hsub hsub1 hv σ H Q h
end
end Mp

set_option maxRecDepth 100000
set_option maxHeartbeats 4000000
/-! Mp13: statements. -/
namespace Mp
open PySem PySem.Spec PyProof.Rows L2

def OcS (C : Ctx) (W : Wd) (ρ : Env) (σ : L2.St) (H : Hp) (D : Ends) : SR → Prop
  | .nx ρ' => ∀ W' σ' H', Fx C.K C.fa W ρ σ H W' ρ' σ' H' → D.nx σ' H'
  | .bk ρ' => ∀ W' σ' H', Fx C.K C.fa W ρ σ H W' ρ' σ' H' → D.bk σ' H'
  | .ct ρ' => ∀ W' σ' H', Fx C.K C.fa W ρ σ H W' ρ' σ' H' → D.ct σ' H'
  | .rt r ρ' => ∀ W' σ' v H', Fx C.K C.fa W ρ σ H W' ρ' σ' H' → RpR C.K C.fa (Ex_ H) W' ρ' σ' H' r v → D.rt v H'
  | .ex e ρ' => ∀ c d W' σ' H', Fx C.K C.fa W ρ σ H W' ρ' σ' H' → RpX C.ca e c d H' → C.Wx c d σ' H'
  | .bad => False
def rdS (C : Ctx) (f : Env → SR) : TS := fun D σ H => ∃ W ρ, RS C.K C.fa W ρ σ H ∧ OcS C W ρ σ H D (f ρ)
theorem PS.mono {X : Cx} {e : Stmt} {t t' : TS} (h : PS X e t) (hi : ∀ D σ H, t' D σ H → t D σ H) : PS X e t' := ⟨fun pins s σ H D I q => h.run pins s σ H D I (hi _ _ _ q)⟩
theorem PSs.mono {X : Cx} {e : List Stmt} {t t' : TS} (h : PSs X e t) (hi : ∀ D σ H, t' D σ H → t D σ H) : PSs X e t' := ⟨fun pins s σ H D I q => h.run pins s σ H D I (hi _ _ _ q)⟩
section
variable {C : Ctx} {W W1 : Wd} {ρ ρ1 : Env} {σ σ1 : L2.St} {H H1 : Hp} {De : Ends}
theorem OcS.step {r : SR} (rs : RS C.K C.fa W ρ σ H) (f : Fx C.K C.fa W ρ σ H W1 ρ1 σ1 H1) (h : OcS C W ρ σ H De r) : OcS C W1 ρ1 σ1 H1 De r := by
  cases r with
  | nx ρ' => exact fun W' σ' H' g => h W' σ' H' (Fx.trans rs f g)
  | bk ρ' => exact fun W' σ' H' g => h W' σ' H' (Fx.trans rs f g)
  | ct ρ' => exact fun W' σ' H' g => h W' σ' H' (Fx.trans rs f g)
  | rt r ρ' => exact fun W' σ' v H' g q => h W' σ' v H' (Fx.trans rs f g) (q.base f.dm)
  | ex e ρ' => exact fun c d W' σ' H' g q => h c d W' σ' H' (Fx.trans rs f g) q
  | bad => exact h
/-- an expression, then what follows -/
theorem rdS_then {f : Env → R RV} {k : RV → Env → SR} {Q' : VK} (rs : RS C.K C.fa W ρ σ H) (h : OcS C W ρ σ H De (sOf (f ρ) k))
    (hk : ∀ W1 ρ1 H1 r v, FxE C.K C.fa W ρ σ H W1 ρ1 H1 → RpR C.K C.fa (Ex_ H) W1 ρ1 σ H1 r v → OcS C W ρ σ H De (k r ρ1) → Q' v H1) : rd C f σ H Q' := by
  refine ⟨W, ρ, rs, ?_⟩
  cases e : f ρ with
  | ok r ρ' =>
    rw [e] at h
    exact fun W' v H' g q => hk W' ρ' H' r v g q h
  | ex e' ρ' =>
    rw [e] at h
    exact fun c d W' H' g q => h c d W' σ H' g.fx q
  | bad =>
    rw [e] at h
    exact h
theorem rdST_then {f : Env → R Bool} {k : Bool → Env → SR} {Q' : Bool → Hp → Prop} (rs : RS C.K C.fa W ρ σ H) (h : OcS C W ρ σ H De (sOf (f ρ) k))
    (hk : ∀ W1 ρ1 H1 b, FxE C.K C.fa W ρ σ H W1 ρ1 H1 → OcS C W1 ρ1 σ H1 De (k b ρ1) → Q' b H1) : rdT C f σ H Q' := by
  refine ⟨W, ρ, rs, ?_⟩
  cases e : f ρ with
  | ok r ρ' =>
    rw [e] at h
    exact fun W' H' g => hk W' ρ' H' r g (OcS.step rs g.fx h)
  | ex e' ρ' =>
    rw [e] at h
    exact fun c d W' H' g q => h c d W' σ H' g.fx q
  | bad =>
    rw [e] at h
    exact h
theorem OcS.rd {f : Env → SR} (rs : RS C.K C.fa W ρ σ H) (h : OcS C W ρ σ H De (f ρ)) : rdS C f De σ H := ⟨W, ρ, rs, h⟩

/-! ### a slot takes a result -/
theorem Fx.setOwn {K : PySem.W.Frag} {fa : FT} {W : Wd} {ρ : Env} {σ : L2.St} {H : Hp} (rs : RS K fa W ρ σ H) {i : Nat} {x : D} {a : Addr} (w : W a) (no : ¬ Ow ρ σ a) (r : RpO K W H x a) (nl : ∀ y, ρ[i]? ≠ some (Sl.own true y)) :
    ∀ {H0 : Hp} {W0 : Wd} {ρ0 : Env} {σ0 : L2.St}, RS K fa W0 ρ0 σ0 H0 → Fx K fa W0 ρ0 σ0 H0 W ρ σ H → H0 a = none → Fx K fa W0 ρ0 σ0 H0 W (ρ.set i (.own false x)) (σ.set i (some (.ref a))) H := by
  intro H0 W0 ρ0 σ0 rs0 f n
  have notEx : ∀ (m : Nat) (l : Bool) (y : D), ρ[m]? = some (Sl.own l y) → σ[m]? ≠ some (some (V.ref a)) := fun m l y e z => no ⟨m, l, y, e, z⟩
  refine ⟨⟨by rw [List.length_set, List.length_set]; exact rs.len, fun j y e => ?_, fun j l y e => ?_, fun j k l l' y y' b e1 e2 e3 e4 => ?_, rs.dom, rs.tab⟩, f.fr, fun b z => ?_, f.wg, f.wk, f.dm, fun j y e => ?_⟩
  · by_cases hj : i = j
    · subst hj
      by_cases hi : i < ρ.length
      · rw [List.getElem?_set_self hi] at e; cases e
      · rw [List.getElem?_eq_none (by rw [List.length_set]; omega)] at e; cases e
    · rw [List.getElem?_set_ne hj] at e ⊢
      exact rs.val j y e
  · by_cases hj : i = j
    · subst hj
      by_cases hi : i < ρ.length
      · rw [List.getElem?_set_self hi] at e
        cases e
        exact ⟨a, by rw [List.getElem?_set_self (by rw [← rs.len]; exact hi)], w, r⟩
      · rw [List.getElem?_eq_none (by rw [List.length_set]; omega)] at e; cases e
    · rw [List.getElem?_set_ne hj] at e ⊢
      exact rs.own j l y e
  · by_cases hj : i = j
    · by_cases hk : i = k
      · rw [← hj, ← hk]
      · subst hj
        have hi : i < σ.length := by
          have := (List.getElem?_eq_some_iff.mp e1).1
          rw [List.length_set, rs.len] at this; exact this
        rw [List.getElem?_set_self hi] at e3
        cases e3
        rw [List.getElem?_set_ne hk] at e2 e4
        exact absurd e4 (notEx k l' y' e2)
    · by_cases hk : i = k
      · subst hk
        have hi : i < σ.length := by
          have := (List.getElem?_eq_some_iff.mp e2).1
          rw [List.length_set, rs.len] at this; exact this
        rw [List.getElem?_set_self hi] at e4
        cases e4
        rw [List.getElem?_set_ne hj] at e1 e3
        exact absurd e3 (notEx j l y e1)
      · rw [List.getElem?_set_ne hj] at e1 e3
        rw [List.getElem?_set_ne hk] at e2 e4
        exact rs.inj j k l l' y y' b e1 e2 e3 e4
  · obtain ⟨j, l, y, e1, e2⟩ := z
    by_cases hj : i = j
    · subst hj
      have hi : i < σ.length := by
        have := (List.getElem?_eq_some_iff.mp e1).1
        rw [List.length_set, rs.len] at this; exact this
      rw [List.getElem?_set_self hi] at e2
      cases e2
      exact .inr n
    · rw [List.getElem?_set_ne hj] at e1 e2
      exact f.ow b ⟨j, l, y, e1, e2⟩
  · obtain ⟨y', e1, e2⟩ := f.ln j y e
    have hj : i ≠ j := fun z => by subst z; exact nl y' e1
    rw [List.getElem?_set_ne hj, List.getElem?_set_ne hj]
    exact ⟨y', e1, e2⟩
/-- a name takes a result -/
theorem putR_fx {K : PySem.W.Frag} {fa : FT} {W0 W : Wd} {ρ0 ρ ρ' : Env} {σ0 σ : L2.St} {H0 H : Hp} {i : Nat} {r : RV} {v : V} (rs0 : RS K fa W0 ρ0 σ0 H0) (f : Fx K fa W0 ρ0 σ0 H0 W ρ σ H) (q : RpR K fa (Ex_ H0) W ρ σ H r v) (e : putR i r ρ = some ρ') :
    Fx K fa W0 ρ0 σ0 H0 W ρ' (σ.set i (some v)) H := by
  unfold putR at e
  split at e
  · cases e
  · cases e
  · rename_i s hs hne
    have nl : ∀ y, ρ[i]? ≠ some (Sl.own true y) := fun y z => by rw [z] at hne; cases hne; exact hs y rfl
    cases r with
    | sh x => cases e; exact Fx.trans rs0 f (Fx.setVal f.rs q nl)
    | fr x =>
      cases e
      obtain ⟨a, ea, w, n, no, r⟩ := q
      subst ea
      refine Fx.setOwn f.rs w no r nl rs0 f ?_
      cases z : H0 a with
      | none => rfl
      | some o => exact absurd (by show H0 a ≠ none; rw [z]; exact Option.some_ne_none o) n
    | br j => cases e
end
end Mp

set_option maxRecDepth 100000
set_option maxHeartbeats 4000000
/-! Mp14: statements: stores. -/
namespace Mp
open PySem PySem.Spec PyProof.Rows L2

section
variable {X : Cx} {fa : FT} {ca : FA} {Wx : WX} {i : Nat} {x : Str} {e : Expr} {pos p' : Pos} {p : Pr}
theorem set_read {C : Ctx} {f : Env → R RV} {De : Ends} {σ : L2.St} {H : Hp} (h : rdS C (fun ρ => sOf (f ρ) fun r ρ1 => nxO (putR i r ρ1)) De σ H) : rd C f σ H fun v H1 => De.nx (σ.set i (some v)) H1 := by
  obtain ⟨W, ρ, rs, h⟩ := h
  refine rdS_then rs h fun W1 ρ1 H1 r v f1 q1 h1 => ?_
  cases e : putR i r ρ1 with
  | none => rw [e] at h1; exact h1.elim
  | some ρ2 => rw [e] at h1; exact h1 _ _ _ (putR_fx rs f1.fx q1 e)
theorem st_set (nd : X.N.Nodup) (h : StN X i x) {f : Env → R RV} (he : PE X e (rd (cx X fa ca Wx) f)) (hs : swapsWith e (some (.Name x p')) pos.line X.env = pure false) :
    PS X (.Assign [.Name x p'] e pos) (rdS (cx X fa ca Wx) fun ρ => sOf (f ρ) fun r ρ1 => nxO (putR i r ρ1)) :=
  PS.mono (ps_set nd h.hi h.loc he hs h.hf) fun D σ H h => set_read h
/-- a tuple is unpacked -/
theorem setT_read {C : Ctx} {tg : Tg} {f : Env → R RV} {De : Ends} {σ : L2.St} {H : Hp} (h : rdS C (fun ρ => sOf (f ρ) fun r ρ1 => match shD r with
    | some x => nxO (setTg tg x ρ1)
    | none => .bad) De σ H) : rd C f σ H fun v H1 => gTg C tg v σ H1 De.nx := by
  obtain ⟨W, ρ, rs, h⟩ := h
  refine rdS_then rs h fun W1 ρ1 H1 r v f1 q1 h1 => ?_
  cases e : shD r with
  | none => rw [e] at h1; exact h1.elim
  | some y =>
    rw [e] at h1
    simp only at h1
    cases e2 : setTg tg y ρ1 with
    | none => rw [e2] at h1; exact h1.elim
    | some ρ2 =>
      rw [e2] at h1
      have fS := FxE.shrink rs f1
      exact ⟨W, ρ1, y, ρ2, fS.rs, q1.out rs f1 e, e2, fun σ' so f2 => h1 _ _ _ (Fx.trans rs fS.fx f2)⟩
theorem sw_tup (e : Expr) (es : List Expr) (k : Nat) (p : Pos) (l : Nat) (env : PySem.Env) : swapsWithSole [.Tuple es k p] e l env = pure false := by
  cases e <;> rfl
def notTup : Expr → Bool
  | .Tuple .. => false
  | _ => true
theorem sw_none {e : Expr} (h : notTup e = true) (es : List Expr) (k : Nat) (p : Pos) (env : PySem.Env) : swappedStores [.Tuple es k p] e env = pure none := by
  cases e <;> first | rfl | cases h
theorem st_setT (hc : X.calm = true) (nd : X.N.Nodup) {ts : List (Nat × Str)} {es : List Expr} {k : Nat} (h : NmsE X ts es) {f : Env → R RV} (he : PE X e (rd (cx X fa ca Wx) f)) (hn : notTup e = true) :
    PS X (.Assign [.Tuple es k p'] e pos) (rdS (cx X fa ca Wx) fun ρ => sOf (f ρ) fun r ρ1 => match shD r with
    | some x => nxO (setTg (.tp ts) x ρ1)
    | none => .bad) :=
  PS.mono (ps_asg he (tg_tp hc nd h) (sw_tup _ _ _ _ _ _) (sw_none hn _ _ _ _)) fun D σ H h => setT_read h

/-! ### a, b = e, e' -/
theorem frV_mem {K : PySem.W.Frag} {W0 W : Wd} {ρ : Env} {σ : L2.St} {H : Hp} {rs : List RV} {vs : List V} (h : RpRs K fa W0 W ρ σ H rs vs) {v : V} (m : v ∈ frV rs vs) : ∃ x, RpR K fa W0 W ρ σ H (.fr x) v := by
  induction h with
  | nil => unfold frV at m; cases m
  | @cons r u rs vs h d t ih =>
    cases r with
    | sh y => unfold frV at m; exact ih m
    | br y => unfold frV at m; exact ih m
    | fr y =>
      unfold frV at m
      rcases List.mem_cons.mp m with m | m
      · subst m; exact ⟨y, h⟩
      · exact ih m
/-- after a store the others stand -/
theorem RpRs.stored {K : PySem.W.Frag} {W0 W : Wd} {ρ ρ' : Env} {σ : L2.St} {H : Hp} {i : Nat} {r : RV} {v : V} (e : putR i r ρ = some ρ') (q : RpR K fa W0 W ρ σ H r v) (len : ρ.length = σ.length) : ∀ {rs : List RV} {vs : List V}, RpRs K fa W0 W ρ σ H rs vs → (∀ x, r = .fr x → v ∉ frV rs vs) → (∀ j, RV.br j ∉ rs) →
    RpRs K fa W0 W ρ' (σ.set i (some v)) H rs vs := by
  have hrho : ∃ s, ρ' = ρ.set i s ∧ (∀ l y, s = Sl.own l y → ∃ x, r = .fr x) := by
    unfold putR at e
    split at e
    · cases e
    · cases e
    · cases r with
      | sh x => cases e; exact ⟨_, rfl, fun _ _ z => by cases z⟩
      | fr x => cases e; exact ⟨_, rfl, fun _ _ _ => ⟨x, rfl⟩⟩
      | br j => cases e
  obtain ⟨s, rfl, hs⟩ := hrho
  intro rs vs h
  induction h with
  | nil => exact fun _ _ => .nil
  | @cons r' u rs vs h d t ih =>
    intro hd nb
    have nb' : ∀ j, RV.br j ∉ rs := fun j z => nb j (List.mem_cons_of_mem _ z)
    refine .cons ?_ d (ih (fun x ex z => hd x ex ?_) nb')
    · cases r' with
      | sh y => exact h
      | br j => exact absurd List.mem_cons_self (nb j)
      | fr y =>
        obtain ⟨a, ea, w, n, no, r0⟩ := h
        refine ⟨a, ea, w, n, fun z => ?_, r0⟩
        obtain ⟨k, l, z', e1, e2⟩ := z
        by_cases hk : i = k
        · subst hk
          by_cases hi : i < ρ.length
          · rw [List.getElem?_set_self hi] at e1
            rw [List.getElem?_set_self (by omega)] at e2
            have e1 : s = Sl.own l z' := Option.some.inj e1
            have e2 : v = V.ref a := Option.some.inj (Option.some.inj e2)
            obtain ⟨x, hx⟩ := hs l z' e1
            refine hd x hx ?_
            unfold frV
            rw [ea, e2]
            exact List.mem_cons_self
          · rw [List.getElem?_eq_none (by rw [List.length_set]; omega)] at e1; cases e1
        · rw [List.getElem?_set_ne hk] at e1 e2
          exact no ⟨k, l, z', e1, e2⟩
    · cases r' with
      | sh y => unfold frV; exact z
      | br j => unfold frV; exact z
      | fr y => unfold frV; exact List.mem_cons_of_mem _ z
theorem putRs_nobr : ∀ {is : List (Nat × Str)} {rv : List RV} {ρ ρ' : Env}, putRs is rv ρ = some ρ' → ∀ j, RV.br j ∉ rv
  | [], [], _, _, _, _, h => by cases h
  | [], _ :: _, _, _, e, _, _ => by unfold putRs at e; cases e
  | _ :: _, [], _, _, e, _, _ => by unfold putRs at e; cases e
  | (i, _) :: is, r :: rv, ρ, ρ', e, j, h => by
    unfold putRs at e
    obtain ⟨ρ1, e1, e2⟩ := Option.bind_eq_some_iff.mp e
    rcases List.mem_cons.mp h with h | h
    · subst h
      unfold putR at e1
      split at e1 <;> cases e1
    · exact putRs_nobr e2 j h
theorem putRs_fx {K : PySem.W.Frag} {W0 W : Wd} {ρ0 : Env} {σ0 : L2.St} {H0 H : Hp} (rs0 : RS K fa W0 ρ0 σ0 H0) : ∀ {is : List (Nat × Str)} {rv : List RV} {vs : List V} {ρ ρ' : Env} {σ : L2.St}, Fx K fa W0 ρ0 σ0 H0 W ρ σ H → RpRs K fa (Ex_ H0) W ρ σ H rv vs → putRs is rv ρ = some ρ' →
    Fx K fa W0 ρ0 σ0 H0 W ρ' (setNσ is vs σ) H
  | [], _, _, _, _, _, f, .nil, e => by cases e; exact f
  | [], _, _, _, _, _, _, .cons _ _ _, e => by unfold putRs at e; cases e
  | _ :: _, _, _, _, _, _, _, .nil, e => by unfold putRs at e; cases e
  | (i, _) :: is, _, _, ρ, ρ', σ, f, .cons (r := r) (v := v) (rs := rv) (vs := vs) h d t, e => by
    unfold putRs at e
    obtain ⟨ρ1, e1, e2⟩ := Option.bind_eq_some_iff.mp e
    have f1 := putR_fx rs0 f h e1
    exact putRs_fx (is := is) (rv := rv) (vs := vs) (ρ := ρ1) (σ := σ.set i (some v)) rs0 f1 (RpRs.stored e1 h f.rs.len t d (putRs_nobr e2)) e2
theorem putRs_len : ∀ {is : List (Nat × Str)} {rv : List RV} {ρ ρ' : Env}, putRs is rv ρ = some ρ' → rv.length = is.length
  | [], [], _, _, _ => rfl
  | [], _ :: _, _, _, e => by unfold putRs at e; cases e
  | _ :: _, [], _, _, e => by unfold putRs at e; cases e
  | (i, _) :: is, r :: rv, ρ, ρ', e => by
    unfold putRs at e
    obtain ⟨ρ1, e1, e2⟩ := Option.bind_eq_some_iff.mp e
    rw [List.length_cons, List.length_cons, putRs_len e2]
theorem rdSA_then {C : Ctx} {W : Wd} {ρ : Env} {σ : L2.St} {H : Hp} {De : Ends} {f : Env → R (List RV)} {k : List RV → Env → SR} {Q' : List V → Hp → Prop} (rs : RS C.K C.fa W ρ σ H) (h : OcS C W ρ σ H De (sOf (f ρ) k))
    (hk : ∀ W1 ρ1 H1 rv vs, FxE C.K C.fa W ρ σ H W1 ρ1 H1 → RpRs C.K C.fa (Ex_ H) W1 ρ1 σ H1 rv vs → OcS C W ρ σ H De (k rv ρ1) → Q' vs H1) : rdA C f σ H Q' := by
  refine ⟨W, ρ, rs, ?_⟩
  cases e : f ρ with
  | ok r ρ' =>
    rw [e] at h
    exact fun W' v H' g q => hk W' ρ' H' r v g q h
  | ex e' ρ' =>
    rw [e] at h
    exact fun c d W' H' g q => h c d W' σ H' g.fx q
  | bad =>
    rw [e] at h
    exact h
theorem setP_read {C : Ctx} {is : List (Nat × Str)} {f : Env → R (List RV)} {De : Ends} {σ : L2.St} {H : Hp} (h : rdS C (fun ρ => sOf (f ρ) fun rv ρ1 => nxO (putRs is rv ρ1)) De σ H) :
    rdA C f σ H fun vs H1 => vs.length = is.length ∧ (∀ H2, (∀ a o, H1 a = some o → H2 a = some o) → De.nx (setNσ is vs σ) H2) := by
  obtain ⟨W, ρ, rs, h⟩ := h
  refine rdSA_then rs h fun W1 ρ1 H1 rv vs f1 q1 h1 => ?_
  cases e : putRs is rv ρ1 with
  | none => rw [e] at h1; exact h1.elim
  | some ρ2 =>
    rw [e] at h1
    refine ⟨?_, fun H2 g => ?_⟩
    · rw [← q1.length, putRs_len e]
    · have fg := FxE.grow f1.rs g
      exact h1 _ _ _ (putRs_fx rs (f1.trans fg).fx (q1.pers f1.rs fg) e)
/-- the names are plain, on one line, and the values no constants -/
def ParOk (env : PySem.Env) (ns : List Str) (ts vs : List Expr) : Prop :=
  ∀ k p k2 p2, swappedStores [.Tuple ts k p] (.Tuple vs k2 p2) env = pure (some ns)
theorem st_par2 (hc : X.calm = true) (nd : X.N.Nodup) {i j : Nat} {x y : Str} {a b : Expr} {ps : List Pr} {px py pt pt2 : Pos} {k k2 : Nat} (h1 : StN X i x) (h2 : StN X j y) (hij : i ≠ j) (hx : X.env.scope.names.lookup x = some .local) (hy : X.env.scope.names.lookup y = some .local)
    (h : Paired (Der X fa ca Wx) [a, b] ps) (hw : ParOk X.env [x, y] [.Name x px, .Name y py] [a, b]) :
    PS X (.Assign [.Tuple [.Name x px, .Name y py] k pt] (.Tuple [a, b] k2 pt2) pos) (rdS (cx X fa ca Wx) fun ρ => sOf (evsL ps ρ) fun rv ρ1 => nxO (putRs [(i, x), (j, y)] rv ρ1)) := by
  refine PS.mono (ps_par hc nd h1.hi h2.hi hij hx hy (pa_all _ _ h) (hw _ _ _ _)) fun D σ H q => ?_
  obtain ⟨W, ρ, rs, q⟩ := setP_read q
  refine ⟨W, ρ, rs, ?_⟩
  cases e : evsL ps ρ with
  | ok r ρ' =>
    rw [e] at q
    intro W' v H' g t
    obtain ⟨q1, q2⟩ := q W' v H' g t
    match v, q1 with
    | [v, w], _ => exact ⟨v, w, rfl, q2 H' fun _ _ e => e⟩
  | ex e' ρ' => rw [e] at q; exact q
  | bad => rw [e] at q; exact q
theorem st_par3 (hc : X.calm = true) (nd : X.N.Nodup) {i j l : Nat} {x y z : Str} {a b c : Expr} {ps : List Pr} {px py pz pt pt2 : Pos} {k k2 : Nat} (h1 : StN X i x) (h2 : StN X j y) (h3 : StN X l z) (hij : i ≠ j) (hil : i ≠ l) (hjl : j ≠ l) (hx : X.env.scope.names.lookup x = some .local) (hy : X.env.scope.names.lookup y = some .local) (hz : X.env.scope.names.lookup z = some .local)
    (h : Paired (Der X fa ca Wx) [a, b, c] ps) (hw : ParOk X.env [x, y, z] [.Name x px, .Name y py, .Name z pz] [a, b, c]) :
    PS X (.Assign [.Tuple [.Name x px, .Name y py, .Name z pz] k pt] (.Tuple [a, b, c] k2 pt2) pos) (rdS (cx X fa ca Wx) fun ρ => sOf (evsL ps ρ) fun rv ρ1 => nxO (putRs [(i, x), (j, y), (l, z)] rv ρ1)) := by
  refine PS.mono (ps_par3 hc nd h1.hi h2.hi h3.hi hij hil hjl hx hy hz (pa_all _ _ h) (hw _ _ _ _)) fun D σ H q => ?_
  obtain ⟨W, ρ, rs, q⟩ := setP_read q
  refine ⟨W, ρ, rs, ?_⟩
  cases e : evsL ps ρ with
  | ok r ρ' =>
    rw [e] at q
    intro W' v H' g t
    obtain ⟨q1, q2⟩ := q W' v H' g t
    match v, q1 with
    | [v, w, u], _ => exact ⟨v, w, u, rfl, q2 H' fun _ _ e => e⟩
  | ex e' ρ' => rw [e] at q; exact q
  | bad => rw [e] at q; exact q
/-- the tuple is made and unpacked -/
theorem st_parT (hc : X.calm = true) (nd : X.N.Nodup) {ts : List (Nat × Str)} {es vs : List Expr} {ps : List Pr} {pt pt2 : Pos} {k k2 : Nat} (hn : NmsE X ts es) (h : Paired (Der X fa ca Wx) vs ps) (hz : ts.length ≤ 100) (hw : swappedStores [.Tuple es k pt] (.Tuple vs k2 pt2) X.env = pure none) :
    PS X (.Assign [.Tuple es k pt] (.Tuple vs k2 pt2) pos) (rdS (cx X fa ca Wx) fun ρ => sOf (evsL ps ρ) fun rv ρ1 => nxO (putRs ts rv ρ1)) := by
  refine PS.mono (ps_asg (pe_tup (pa_all _ _ h)) (pg_tup hc (pgs_nms nd hn) (n := ts.length) hn.len.1 hn.len.2) (sw_tup _ _ _ _ _ _) hw) fun D σ H q => ?_
  obtain ⟨W, ρ, rs, q⟩ := setP_read q
  refine ⟨W, ρ, rs, ?_⟩
  cases e : evsL ps ρ with
  | ok r ρ' =>
    rw [e] at q
    intro W' v H' g t
    obtain ⟨q1, q2⟩ := q W' v H' g t
    refine ⟨by rw [q1, sizeLine_eq]; omega, fun a ha => ⟨a, v, rfl, .inl (.inl upd_same), q1, q1, q2 _ fun b o e => grow_upd ha b o e⟩⟩
  | ex e' ρ' => rw [e] at q; exact q
  | bad => rw [e] at q; exact q
end
end Mp

set_option maxRecDepth 100000
set_option maxHeartbeats 4000000
/-! Mp15: statements: the others. -/
namespace Mp
open PySem PySem.Spec PyProof.Rows L2

/-- an owned list changes -/
theorem Fx.updL {K : PySem.W.Frag} {fa : FT} {W : Wd} {ρ : Env} {σ : L2.St} {H : Hp} (rs : RS K fa W ρ σ H) {i : Nat} {l : Bool} {ds ds' : List P} {a : Addr} {xs' : List V} (hi : ρ[i]? = some (Sl.own l (.d (.list ds)))) (ha : σ[i]? = some (some (V.ref a))) (hz : xs'.length ≤ sizeLine) (r : RpA K W H ds' xs') :
    Fx K fa W ρ σ H W (ρ.set i (.own l (.d (.list ds')))) σ (upd H a (.lst xs')) := by
  have wa : W a := rs.owW ⟨i, l, _, hi, ha⟩
  have hl : i < ρ.length := (List.getElem?_eq_some_iff.mp hi).1
  have hoth : ∀ b, b ≠ a → upd H a (.lst xs') b = H b := fun b hb => upd_ne hb
  have s : Stay W H W (upd H a (.lst xs')) := ⟨fun b o e n _ => by rw [hoth b (fun z => n (by rw [z]; exact wa))]; exact e, fun _ w => .inl w, rs.dom⟩
  have owi : ∀ j l' x, (ρ.set i (.own l (.d (.list ds'))))[j]? = some (Sl.own l' x) → ∃ x', ρ[j]? = some (Sl.own l' x') := fun j l' x e => by
    by_cases hj : i = j
    · subst hj
      rw [List.getElem?_set_self hl] at e
      cases e
      exact ⟨_, hi⟩
    · rw [List.getElem?_set_ne hj] at e
      exact ⟨x, e⟩
  refine ⟨⟨by rw [List.length_set]; exact rs.len, fun j x e => ?_, fun j l' x e => ?_, fun j k l1 l2 x1 x2 b e1 e2 e3 e4 => ?_, fun b w => ?_, ?_⟩, fun b o e n _ => ?_, fun b z => ?_, fun _ w => .inl w, fun _ w => .inl w, fun b e => ?_, fun j x e => ?_⟩
  · by_cases hj : i = j
    · subst hj
      rw [List.getElem?_set_self hl] at e
      cases e
    · rw [List.getElem?_set_ne hj] at e
      obtain ⟨v, e1, r1⟩ := rs.val j x e
      exact ⟨v, e1, s.rpD r1⟩
  · by_cases hj : i = j
    · subst hj
      rw [List.getElem?_set_self hl] at e
      cases e
      exact ⟨a, ha, wa, xs', upd_same, hz, s.rpA r⟩
    · rw [List.getElem?_set_ne hj] at e
      obtain ⟨b, e1, w, r1⟩ := rs.own j l' x e
      have hb : b ≠ a := fun z => by
        subst z
        exact hj (rs.inj i j l l' _ x b hi e ha e1)
      exact ⟨b, e1, w, s.rpO r1 fun o _ ho => by rw [hoth b hb]; exact ho⟩
  · obtain ⟨y1, f1⟩ := owi j l1 x1 e1
    obtain ⟨y2, f2⟩ := owi k l2 x2 e2
    exact rs.inj j k l1 l2 y1 y2 b f1 f2 e3 e4
  · by_cases hb : b = a
    · subst hb; exact ⟨_, upd_same, trivial⟩
    · obtain ⟨o, e, m⟩ := rs.dom b w
      exact ⟨o, by rw [hoth b hb]; exact e, m⟩
  · obtain ⟨b, e1, _, xs, h1, _⟩ := rs.own i l _ hi
    rw [ha] at e1
    cases e1
    exact rs.tab.write h1
  · rw [hoth b (fun z => n ⟨i, l, _, hi, by rw [z]; exact ha⟩)]; exact e
  · obtain ⟨j, l', x, e1, e2⟩ := z
    obtain ⟨y, f⟩ := owi j l' x e1
    exact .inl ⟨j, l', y, f, e2⟩
  · by_cases hb : b = a
    · subst hb; rw [upd_same]; exact Option.some_ne_none _
    · rw [hoth b hb]; exact e
  · by_cases hj : i = j
    · subst hj
      rw [hi] at e
      cases e
      exact ⟨_, List.getElem?_set_self hl, rfl⟩
    · rw [List.getElem?_set_ne hj]
      exact ⟨x, e, rfl⟩
theorem FxE.ownF {K : PySem.W.Frag} {fa : FT} {W W' : Wd} {ρ ρ' : Env} {σ : L2.St} {H H' : Hp} (f : FxE K fa W ρ σ H W' ρ' H') {i : Nat} {x : D} {l : Bool} (e : ρ'[i]? = some (Sl.own l x)) : ∃ y a, ρ[i]? = some (Sl.own l y) ∧ σ[i]? = some (some (V.ref a)) ∧ W' a ∧ RpO K W' H' x a := by
  obtain ⟨y, hy⟩ := f.hs i l x e
  obtain ⟨a, h1, h2, h3⟩ := f.rs.own i l x e
  exact ⟨y, a, hy, h1, h2, h3⟩

section
variable {X : Cx} {fa : FT} {ca : FA} {Wx : WX} {i : Nat} {x : Str} {e : Expr} {pos p' : Pos} {p : Pr}
theorem one_data {K : PySem.W.Frag} {W0 W1 : Wd} {ρ0 ρ : Env} {σ : L2.St} {H0 H : Hp} {r : RV} {v : V} {y : P} (rs0 : RS K fa W0 ρ0 σ H0) (f : FxE K fa W0 ρ0 σ H0 W1 ρ H) (q : RpR K fa (Ex_ H0) W1 ρ σ H r v) (e : datas [r] = some [y]) : Rp K W0 H y v := by
  have := RpRs.datas (.cons q (fun _ _ z => by unfold frV at z; cases z) .nil) e f.wm rs0.ex f.rs.dom
  cases this with
  | cons h _ => exact h
theorem datas1 {r : RV} {ys : List P} (e : datas [r] = some ys) : ∃ y, ys = [y] := by
  cases r with
  | sh x => cases x <;> first | (simp [datas] at e; exact ⟨_, e.symm⟩) | cases e
  | fr x => cases x <;> first | (simp [datas] at e; exact ⟨_, e.symm⟩) | cases e
  | br j => cases e
theorem sw_any (e : Expr) (o i : Expr) (p : Pos) (l : Nat) (env : PySem.Env) : swapsWithSole [.Subscript o i p] e l env = pure false := by cases e <;> rfl
theorem sw_sub (e : Expr) (o i : Expr) (p : Pos) (env : PySem.Env) : swappedStores [.Subscript o i p] e env = pure none := by cases e <;> rfl
theorem plain_tsub {o i : Expr} {p : Pos} (h : plainE i = true) (env : PySem.Env) : ∀ v, assign (.Subscript o i p) env v = (do
      let ov ← holding [v] (eval o env)
      let iv ← holding [v, ov] (eval i env)
      standAt p
      holding [v, ov, iv] (setItem ov iv v)
      release [v, ov, iv] []) := by
  cases i <;> first | exact fun _ => rfl | cases h
/-- a second expression, told from the beginning -/
theorem rdS_then2 {C : Ctx} {W W1 : Wd} {ρ ρ1 : Env} {σ : L2.St} {H H1 : Hp} {De : Ends} {f : Env → R RV} {k : RV → Env → SR} {Q' : VK} (f1 : FxE C.K C.fa W ρ σ H W1 ρ1 H1) (h : OcS C W ρ σ H De (sOf (f ρ1) k))
    (hk : ∀ W2 ρ2 H2 r v, FxE C.K C.fa W1 ρ1 σ H1 W2 ρ2 H2 → RpR C.K C.fa (Ex_ H1) W2 ρ2 σ H2 r v → OcS C W ρ σ H De (k r ρ2) → Q' v H2) : rd C f σ H1 Q' := by
  refine ⟨W1, ρ1, f1.rs, ?_⟩
  cases e : f ρ1 with
  | ok r ρ' =>
    rw [e] at h
    exact fun W' v H' g q => hk W' ρ' H' r v g q h
  | ex e' ρ' =>
    rw [e] at h
    exact fun c d W' H' g q => h c d W' σ H' (f1.trans g).fx q
  | bad =>
    rw [e] at h
    exact h
/-- xs[k] = e -/
theorem st_setIx {k : Expr} {tk te : Env → R RV} {tpos px : Pos} (hv : PE X (.Name x px) (tVar i)) (hk : PE X k (rd (cx X fa ca Wx) tk)) (he : PE X e (rd (cx X fa ca Wx) te)) (hpk : plainE k = true) :
    PS X (.Assign [.Subscript (.Name x px) k tpos] e pos) (rdS (cx X fa ca Wx) fun ρ => sOf (te ρ) fun r ρ1 => match ρ1[i]? with
    | some (.own _ (.d (.list _))) => sOf (tk ρ1) fun k ρ2 => nxO (ixSet i k r ρ2)
    | _ => .bad) := by
  refine PS.mono (ps_asg he (pg_sub hv hk set_list (plain_tsub hpk _)) (sw_any _ _ _ _ _ _) (sw_sub _ _ _ _ _)) fun D σ H ⟨W, ρ, rs, h⟩ => ?_
  refine rdS_then rs h fun W1 ρ1 H1 r v f1 q1 h1 => ?_
  split at h1
  · rename_i l ds hi
    obtain ⟨a, ha, _, _⟩ := f1.rs.own i l _ hi
    refine ⟨.ref a, ha, rdS_then2 f1 h1 fun W2 ρ2 H2 s u f2 q2 h2 => ?_⟩
    have f12 := f1.trans f2
    have q1' := q1.pers f1.rs f2
    have fS := FxE.shrink rs f12
    unfold ixSet at h2
    cases es : datas [s] with
    | none => rw [es] at h2; exact h2.elim
    | some ks =>
      obtain ⟨ky, rfl⟩ := datas1 es
      cases er : datas [r] with
      | none => rw [es, er] at h2; cases ky <;> exact h2.elim
      | some ys =>
        obtain ⟨y, rfl⟩ := datas1 er
        rw [es, er] at h2
        cases ky with
        | int j =>
          split at h2
          · rename_i _ _ l2 xs e1 e2 hi2
            cases e1
            cases e2
            cases en : ixN xs.length j with
            | none => rw [en] at h2; exact h2.elim
            | some n =>
              rw [en] at h2
              have ry := one_data rs f12 q1' er
              have rk := one_data f1.rs f2 q2 es
              cases rk
              obtain ⟨b, hb, _, vs, hvs, hz, ra⟩ := fS.rs.own i l2 _ hi2
              rw [ha] at hb
              cases hb
              refine ⟨a, vs, j, n, rfl, rfl, hvs, by rw [← ra.length]; exact en, ?_⟩
              exact h2 _ _ _ (Fx.trans rs fS.fx (Fx.updL fS.rs hi2 ha (by rw [List.length_set]; exact hz) (RpA.set ry n ra)))
          · exact h2.elim
        | _ => exact h2.elim
  · exact h1.elim
/-- xs.append(e) -/
theorem st_app {tpos px cpos : Pos} (hv : PE X (.Name x px) (tVar i)) {p : Pr} (d : Der X fa ca Wx e p) (hline : (tpos.endLine == cpos.line) = true) :
    PS X (.Expr (.Call (.Attribute (.Name x px) "append" tpos) [e] [] cpos) pos) (rdS (cx X fa ca Wx) fun ρ => match ρ[i]? with
    | some (.own _ (.d (.list _))) => sOf (p.v ρ) fun r ρ1 => nxO (appE i r ρ1)
    | _ => .bad) := by
  have hst := plain_star d.sy [] X.env
  refine PS.mono (ps_expr (pe_bm PySem.F.plainAttrs_list PySem.F.slot_list_append PySem.F.type_list_append mt_append hv (pa_cons d.v pa_nil hst) rfl (by rw [hst]; rfl) hline hst rfl)) fun D σ H ⟨W, ρ, rs, h⟩ => ?_
  dsimp only at h
  split at h
  · rename_i l ds hi
    obtain ⟨a, ha, _, vs, hvs, hz, ra⟩ := rs.own i l _ hi
    refine ⟨.ref a, ha, .inl ⟨rfl, vs, .inl (.inl hvs)⟩, ?_⟩
    refine rdS_then rs h fun W1 ρ1 H1 r v f1 q1 h1 => ?_
    have fS := FxE.shrink rs f1
    unfold appE at h1
    cases er : datas [r] with
    | none => rw [er] at h1; exact h1.elim
    | some ys =>
      obtain ⟨y, rfl⟩ := datas1 er
      rw [er] at h1
      split at h1
      · rename_i _ l2 xs e1 hi2
        cases e1
        split at h1
        · rename_i hlt
          have ry := one_data rs f1 q1 er
          obtain ⟨b, hb, _, vs2, hvs2, hz2, ra2⟩ := fS.rs.own i l2 _ hi2
          rw [ha] at hb
          cases hb
          have hl := ra2.length
          refine ⟨a, vs2, v, rfl, rfl, hvs2, by rw [← hl, sizeLine_eq]; exact hlt, ?_⟩
          refine h1 _ _ _ (Fx.trans rs fS.fx (Fx.updL fS.rs hi2 ha (by rw [List.length_append, List.length_singleton, ← hl, sizeLine_eq]; omega) (ra2.append (.cons ry .nil))))
        · exact h1.elim
      · exact h1.elim
  · exact h.elim
theorem set_self {σ : L2.St} {i : Nat} {v : Option V} (h : σ[i]? = some v) : σ.set i v = σ := by
  apply List.ext_getElem?
  intro j
  by_cases hj : i = j
  · subst hj
    rw [List.getElem?_set_self (List.getElem?_eq_some_iff.mp h).1, h]
  · rw [List.getElem?_set_ne hj]
def rAug (sub : Bool) : TIp := fun x y H Q => ipI (fun i j => if sub then i - j else i + j) x y H Q ∨ (sub = false ∧ rExt2 x y H Q)
theorem ip_aug (sub : Bool) : PIp X (if sub then .Sub else .Add) (rAug sub) := by
  cases sub with
  | true =>
    intro pins s σ H x y v u Q I rx ry h
    rcases h with h | ⟨h, _⟩
    · exact ip_sub pins s σ H x y v u Q I rx ry h
    · cases h
  | false =>
    intro pins s σ H x y v u Q I rx ry h
    rcases h with h | ⟨_, h⟩
    · exact ip_add pins s σ H x y v u Q I rx ry h
    · exact iop_ext pins s σ H x y v u Q I rx ry h
/-- x += e, x -= e: ints; xs += e -/
theorem st_aug (nd : X.N.Nodup) (h : StN X i x) {te : Env → R RV} (sub : Bool) (he : PE X e (rd (cx X fa ca Wx) te)) :
    PS X (.AugAssign (.Name x p') (if sub then .Sub else .Add) e pos) (rdS (cx X fa ca Wx) fun ρ => match ρ[i]? with
    | some (.val (.d (.int a))) => sOf (te ρ) fun r ρ1 => nxO (augE i sub a r ρ1)
    | some (.own _ (.d (.list _))) => if sub then .bad else sOf (te ρ) fun r ρ1 => nxO (extE i r ρ1)
    | _ => .bad) := by
  refine PS.mono (ps_aug nd h.hi h.loc he (ip_aug sub) h.hf) fun D σ H ⟨W, ρ, rs, h⟩ => ?_
  dsimp only at h
  split at h
  · rename_i a hi
    obtain ⟨u, hu, ru⟩ := rs.val i _ hi
    cases (show Rp X.K W H (.int a) u from ru)
    refine ⟨_, hu, rdS_then rs h fun W1 ρ1 H1 r v f1 q1 h1 => ?_⟩
    unfold augE at h1
    cases e1 : derefP ρ1 r with
    | none => rw [e1] at h1; exact h1.elim
    | some y =>
      rw [e1] at h1
      cases y with
      | int b =>
        have rb := q1.ro f1.rs e1
        rcases rb with rb | ⟨_, _, _, z, _⟩
        · cases rb
          refine .inl ⟨a, b, rfl, rfl, h1 _ _ _ (Fx.trans rs f1.fx (Fx.setVal f1.rs (.int _) fun y z => ?_))⟩
          obtain ⟨y', hy'⟩ := f1.hs i true y z
          rw [hi] at hy'
          cases hy'
        · cases z
      | _ => exact h1.elim
  · rename_i l ds hi
    cases sub with
    | true => rw [if_pos rfl] at h; exact h.elim
    | false =>
      rw [if_neg Bool.false_ne_true] at h
      obtain ⟨a, ha, _, vs, hvs, hz, ra⟩ := rs.own i l _ hi
      refine ⟨.ref a, ha, rdS_then rs h fun W1 ρ1 H1 r v f1 q1 h1 => ?_⟩
      have fS := FxE.shrink rs f1
      unfold extE at h1
      cases e1 : derefP ρ1 r with
      | none => rw [e1] at h1; exact h1.elim
      | some y =>
        rw [e1] at h1
        cases y with
        | list ys =>
          split at h1
          · rename_i _ _ zs l2 xs e2 e3
            cases e2
            split at h1
            · rename_i hlt
              obtain ⟨b, us, eb, hb, zb, rb⟩ := ro_lst (q1.ro f1.rs e1)
              subst eb
              obtain ⟨b', hb', _, vs2, hvs2, hz2, ra2⟩ := fS.rs.own i l2 _ e3
              rw [ha] at hb'
              cases hb'
              have l1 := ra2.length
              have l3 := rb.length
              refine .inr ⟨rfl, a, b, vs2, us, rfl, rfl, hvs2, hb, by rw [sizeLine_eq]; omega, ?_⟩
              show D.nx (σ.set i (some (V.ref a))) _
              rw [set_self ha]
              have s : Stay W1 H1 W H1 := Stay.shrink rs f1
              exact h1 _ _ _ (Fx.trans rs fS.fx (Fx.updL fS.rs e3 ha (by rw [List.length_append, sizeLine_eq]; omega) (ra2.append (s.rpA rb))))
            · exact h1.elim
          · exact h1.elim
        | _ => exact h1.elim
  · exact h.elim
end
end Mp

set_option maxRecDepth 100000
set_option maxHeartbeats 4000000
/-! Mp16: flow. -/
namespace Mp
open PySem PySem.Spec PyProof.Rows L2

section
variable {X : Cx} {fa : FT} {ca : FA} {Wx : WX} {e : Expr} {pos p' : Pos} {p : Pr}
def notComp : Expr → Bool
  | .ListComp .. => false
  | .SetComp .. => false
  | .DictComp .. => false
  | _ => true
theorem sw_no {e : Expr} (h : notComp e = true) (t : Option Expr) (l : Nat) (env : PySem.Env) : swapsWith e t l env = pure false := by
  cases e <;> first | rfl | cases h
theorem st_expr {te : Env → R RV} (he : PE X e (rd (cx X fa ca Wx) te)) (h : notComp e = true) : PS X (.Expr e pos) (rdS (cx X fa ca Wx) fun ρ => sOf (te ρ) fun _ ρ1 => .nx ρ1) :=
  PS.mono (ps_expr he (sw_no h _ _ _)) fun D σ H ⟨W, ρ, rs, h⟩ => rdS_then rs h fun W1 ρ1 H1 r v f1 q1 h1 => h1 _ _ _ f1.fx
theorem st_doc {x : Str} {j : Option Str} : True := trivial
theorem st_ret {te : Env → R RV} (he : PE X e (rd (cx X fa ca Wx) te)) : PS X (.Return (some e) pos) (rdS (cx X fa ca Wx) fun ρ => sOf (te ρ) fun r ρ1 => .rt r ρ1) :=
  PS.mono (ps_ret he) fun D σ H ⟨W, ρ, rs, h⟩ => rdS_then rs h fun W1 ρ1 H1 r v f1 q1 h1 => h1 _ _ _ _ f1.fx q1
theorem st_retN : PS X (.Return none pos) (rdS (cx X fa ca Wx) fun ρ => sOf (R.ok (shP .none) ρ) fun r ρ1 => .rt r ρ1) :=
  PS.mono ps_retN fun D σ H ⟨W, ρ, rs, h⟩ => h _ _ _ _ (Fx.refl rs) .non
theorem st_ife {c : Expr} {a b : List Stmt} {tc : Env → R Bool} {ta tb : Env → SR} (hc : PT X c (rdT (cx X fa ca Wx) tc)) (ha : PSs X a (rdS (cx X fa ca Wx) ta)) (hb : PSs X b (rdS (cx X fa ca Wx) tb)) :
    PS X (.If c a b pos) (rdS (cx X fa ca Wx) fun ρ => sOf (tc ρ) fun t ρ1 => if t then ta ρ1 else tb ρ1) :=
  PS.mono (ps_if hc ha hb) fun D σ H ⟨W, ρ, rs, h⟩ => rdST_then rs h fun W1 ρ1 H1 b f1 h1 => by
    cases b with
    | true => exact OcS.rd f1.rs h1
    | false => exact OcS.rd f1.rs h1
/-! ### for -/
theorem for_read {C : Ctx} {tg : Tg} {ti : Env → R (List D)} {tb : Env → SR} {De : Ends} {σ : L2.St} {H : Hp} (h : rdS C (fun ρ => sOf (ti ρ) fun l ρ1 => forL tg tb l ρ1) De σ H) : tFor (rdI C ti) (gTg C tg) (rdS C tb) De σ H := by
  obtain ⟨W, ρ, rs, h⟩ := h
  dsimp only at h
  refine ⟨W, ρ, rs, ?_⟩
  cases e : ti ρ with
  | ex e' ρ' =>
    rw [e] at h
    exact fun c d W' H' g q => h c d W' σ H' g.fx q
  | bad => rw [e] at h; exact h
  | ok items ρ1 =>
    rw [e] at h
    intro W1 J H1 f1 hJ
    have rs1 := f1.rs
    have h1 : OcS C W1 ρ1 σ H1 De (forL tg tb items ρ1) := OcS.step rs f1.fx h
    clear h
    refine ⟨fun i m σ' H' => m + i = items.length ∧ ∃ W' ρ', Fx C.K C.fa W1 ρ1 σ H1 W' ρ' σ' H' ∧ OcS C W' ρ' σ' H' De (forL tg tb (items.drop i) ρ'), ⟨items.length, rfl, W1, ρ1, Fx.refl rs1, by rw [List.drop_zero]; exact h1⟩, ?_⟩
    rintro i m σ' H' ⟨hm, W', ρ', f, hh⟩
    obtain ⟨hgo, hstop⟩ := hJ.2 W' H' (f.stay rs1) f.rs.dom
    by_cases hi : i < items.length
    · refine .inr ?_
      have hx : items[i]? = some items[i] := List.getElem?_eq_getElem hi
      obtain ⟨go, hy⟩ := hgo i _ hx
      rw [List.drop_eq_getElem_cons hi] at hh
      unfold forL at hh
      refine ⟨go, fun σ3 H3 => ∃ W3 ρ3, Fx C.K C.fa W1 ρ1 σ H1 W3 ρ3 σ3 H3 ∧ OcS C W3 ρ3 σ3 H3 De (forL tg tb (items.drop (i + 1)) ρ3), fun σ3 H3 q => ⟨m - 1, by omega, by omega, q⟩, fun v Hy y => ?_⟩
      obtain ⟨g, rv⟩ := hy v Hy y
      have fg := (FxE.grow f.rs g).fx
      cases es : setTg tg items[i] ρ' with
      | none => rw [es] at hh; exact hh.elim
      | some ρ2 =>
        rw [es] at hh
        simp only at hh
        refine ⟨W', ρ', items[i], ρ2, fg.rs, rv, es, fun σ2 _ f2 => ⟨W', ρ2, f2.rs, ?_⟩⟩
        have fall : Fx C.K C.fa W' ρ' σ' H' W' ρ2 σ2 Hy := Fx.trans f.rs fg f2
        have h2 := OcS.step f.rs fall hh
        have fbase : Fx C.K C.fa W1 ρ1 σ H1 W' ρ2 σ2 Hy := Fx.trans rs1 f fall
        cases eb : tb ρ2 with
        | nx ρ3 =>
          rw [eb] at h2
          exact fun W3 σ3 H3 f3 => ⟨W3, ρ3, Fx.trans rs1 fbase f3, OcS.step f2.rs f3 h2⟩
        | ct ρ3 =>
          rw [eb] at h2
          exact fun W3 σ3 H3 f3 => ⟨W3, ρ3, Fx.trans rs1 fbase f3, OcS.step f2.rs f3 h2⟩
        | bk ρ3 =>
          rw [eb] at h2
          exact h2
        | rt r ρ3 =>
          rw [eb] at h2
          exact h2
        | ex e' ρ3 =>
          rw [eb] at h2
          exact h2
        | bad =>
          rw [eb] at h2
          exact h2
    · have ei : i = items.length := by omega
      refine .inl ⟨hstop i (by omega), ?_⟩
      subst ei
      rw [List.drop_length] at hh
      unfold forL at hh
      exact hh _ _ _ (Fx.refl f.rs)
theorem st_for {tg iter : Expr} {body : List Stmt} {tgT : Tg} {ti : Env → R (List D)} {tb : Env → SR} (hp : PassesOwn (model X.prog X.w) X.A X.env X.xe) (hc : X.calm = true) (hi : PI X tg iter (rdI (cx X fa ca Wx) ti)) (hg : PG X tg (gTg (cx X fa ca Wx) tgT)) (hb : PSs X body (rdS (cx X fa ca Wx) tb)) (hpl : plainE iter = true) :
    PS X (.For tg iter body [] pos) (rdS (cx X fa ca Wx) fun ρ => sOf (ti ρ) fun l ρ1 => forL tgT tb l ρ1) :=
  PS.mono (ps_for hp hc hi hg hb (plain_fold hpl _)) fun D σ H h => for_read h
/-! ### while -/
theorem whl_read {C : Ctx} {n : Nat} {tc : Env → R Bool} {tb : Env → SR} {De : Ends} {σ : L2.St} {H : Hp} (h : rdS C (fun ρ => whlL tc tb n ρ) De σ H) : tWhile (rdT C tc) (rdS C tb) De σ H := by
  obtain ⟨W, ρ, rs, h⟩ := h
  refine ⟨fun m σ' H' => ∃ W' ρ', Fx C.K C.fa W ρ σ H W' ρ' σ' H' ∧ OcS C W' ρ' σ' H' De (whlL tc tb m ρ'), ⟨n, W, ρ, Fx.refl rs, h⟩, ?_⟩
  rintro m σ' H' ⟨W', ρ', f, hh⟩
  cases m with
  | zero => exact hh.elim
  | succ m =>
    unfold whlL at hh
    refine rdST_then f.rs hh fun W1 ρ1 H1 b f1 h1 => ?_
    have fb : Fx C.K C.fa W ρ σ H W1 ρ1 σ' H1 := Fx.trans rs f f1.fx
    cases b with
    | false =>
      rw [if_neg Bool.false_ne_true] at h1 ⊢
      exact h1 _ _ _ (Fx.refl f1.rs)
    | true =>
      rw [if_pos rfl] at h1 ⊢
      refine ⟨fun σ3 H3 => ∃ W3 ρ3, Fx C.K C.fa W ρ σ H W3 ρ3 σ3 H3 ∧ OcS C W3 ρ3 σ3 H3 De (whlL tc tb m ρ3), fun σ3 H3 q => ⟨m, by omega, q⟩, W1, ρ1, f1.rs, ?_⟩
      cases eb : tb ρ1 with
      | nx ρ3 =>
        rw [eb] at h1
        exact fun W3 σ3 H3 f3 => ⟨W3, ρ3, Fx.trans rs fb f3, OcS.step f1.rs f3 h1⟩
      | ct ρ3 =>
        rw [eb] at h1
        exact fun W3 σ3 H3 f3 => ⟨W3, ρ3, Fx.trans rs fb f3, OcS.step f1.rs f3 h1⟩
      | bk ρ3 => rw [eb] at h1; exact h1
      | rt r ρ3 => rw [eb] at h1; exact h1
      | ex e' ρ3 => rw [eb] at h1; exact h1
      | bad => rw [eb] at h1; exact h1
theorem st_whl {c : Expr} {body : List Stmt} {n : Nat} {tc : Env → R Bool} {tb : Env → SR} (hp : PassesOwn (model X.prog X.w) X.A X.env X.xe) (hc : PT X c (rdT (cx X fa ca Wx) tc)) (hb : PSs X body (rdS (cx X fa ca Wx) tb)) :
    PS X (.While c body [] pos) (rdS (cx X fa ca Wx) fun ρ => whlL tc tb n ρ) :=
  PS.mono (ps_while hp hc hb) fun D σ H h => whl_read h
/-! ### raise -/
theorem st_raise {x m : Str} {j : Nat} {p1 p2 p3 : Pos} {c : Nat} {bmB : List Value} {B newId initId : String} (hc : X.calm = true) (tk : Takes X Wx) (F : ExcBaseFacts B newId initId bmB) (q : PySem.W.excIn X.K (ca c) bmB newId = true) (gC : X.mg x = some (.ref (ca c))) (kC : PySem.W.keepIn X.K (.ref (ca c)) = true) (r : Raises X (.ref (ca c))) (hg : Gl X x) (hdb : (x == ("__debug__" : Str)) = false) :
    PS X (.Raise (some (.Call (.Name x p1) [.Constant (.str m) j p2] [] p3)) none pos) (rdS (cx X fa ca Wx) fun ρ => .ex ⟨c, []⟩ ρ) :=
  PS.mono (ps_raise hc tk (pmk_own F q gC kC r hg hdb)) fun D σ H ⟨W, ρ, rs, h⟩ => h _ _ _ _ _ (Fx.refl rs) ⟨rfl, rfl, rfl⟩
/-! ### blocks -/
theorem ss_nil : PSs X [] (rdS (cx X fa ca Wx) fun ρ => .nx ρ) := PSs.mono pss_nil fun D σ H ⟨W, ρ, rs, h⟩ => h _ _ _ (Fx.refl rs)
def thenS (f g : Env → SR) (ρ : Env) : SR := match f ρ with
  | .nx ρ1 => g ρ1
  | r => r
theorem ss_cons {s : Stmt} {r : List Stmt} {f g : Env → SR} (h1 : PS X s (rdS (cx X fa ca Wx) f)) (h2 : PSs X r (rdS (cx X fa ca Wx) g)) : PSs X (s :: r) (rdS (cx X fa ca Wx) (thenS f g)) :=
  PSs.mono (pss_cons h1 h2) fun D σ H ⟨W, ρ, rs, h⟩ => by
    refine ⟨W, ρ, rs, ?_⟩
    unfold thenS at h
    cases e : f ρ with
    | nx ρ1 => rw [e] at h; exact fun W1 σ1 H1 f1 => ⟨W1, ρ1, f1.rs, OcS.step rs f1 h⟩
    | bk ρ1 => rw [e] at h; exact h
    | ct ρ1 => rw [e] at h; exact h
    | rt r ρ1 => rw [e] at h; exact h
    | ex e' ρ1 => rw [e] at h; exact h
    | bad => rw [e] at h; exact h
/-- an owned object is given away -/
theorem frz_fx {K : PySem.W.Frag} {fa : FT} {W : Wd} {ρ ρ' : Env} {σ : L2.St} {H : Hp} {i : Nat} (rs : RS K fa W ρ σ H) (e : frzE i ρ = some ρ') : ∃ W', Fx K fa W ρ σ H W' ρ' σ H := by
  unfold frzE at e
  split at e
  · rename_i x hi
    cases e
    obtain ⟨a, ha, wa, r⟩ := rs.own i false x hi
    have hl : i < ρ.length := (List.getElem?_eq_some_iff.mp hi).1
    have sub : ∀ b, (W b ∧ b ≠ a) → W b := fun _ z => z.1
    refine ⟨fun b => W b ∧ b ≠ a, ⟨⟨by rw [List.length_set]; exact rs.len, fun j y e => ?_, fun j l y e => ?_, fun j k l l' y y' b e1 e2 e3 e4 => ?_, fun b w => rs.dom b w.1, rs.tab⟩, fun b o e _ _ => e, fun b z => ?_, fun b w => .inl w.1, fun b w => ?_, fun b e => e, fun j y e => ?_⟩⟩
    · by_cases hj : i = j
      · subst hj
        rw [List.getElem?_set_self hl] at e
        cases e
        exact ⟨_, ha, r.give (fun z => z.2 rfl) sub rs.dom⟩
      · rw [List.getElem?_set_ne hj] at e
        obtain ⟨v, e1, r1⟩ := rs.val j y e
        exact ⟨v, e1, r1.sub sub rs.dom⟩
    · by_cases hj : i = j
      · subst hj
        rw [List.getElem?_set_self hl] at e
        cases e
      · rw [List.getElem?_set_ne hj] at e
        obtain ⟨b, e1, w, r1⟩ := rs.own j l y e
        exact ⟨b, e1, ⟨w, fun z => by subst z; exact hj (rs.inj i j false l x y b hi e ha e1)⟩, r1.sub sub rs.dom⟩
    · by_cases hj : i = j
      · subst hj; rw [List.getElem?_set_self hl] at e1; cases e1
      · by_cases hk : i = k
        · subst hk; rw [List.getElem?_set_self hl] at e2; cases e2
        · rw [List.getElem?_set_ne hj] at e1
          rw [List.getElem?_set_ne hk] at e2
          exact rs.inj j k l l' y y' b e1 e2 e3 e4
    · obtain ⟨j, l, y, e1, e2⟩ := z
      by_cases hj : i = j
      · subst hj; rw [List.getElem?_set_self hl] at e1; cases e1
      · rw [List.getElem?_set_ne hj] at e1
        exact .inl ⟨j, l, y, e1, e2⟩
    · by_cases hb : b = a
      · subst hb; exact .inr ⟨i, false, x, hi, ha⟩
      · exact .inl ⟨w, hb⟩
    · have hj : i ≠ j := fun z => by subst z; rw [hi] at e; cases e
      rw [List.getElem?_set_ne hj]
      exact ⟨y, e, rfl⟩
  · cases e; exact ⟨W, Fx.refl rs⟩
  · cases e
theorem ss_frz {i : Nat} {r : List Stmt} {f : Env → SR} (h : PSs X r (rdS (cx X fa ca Wx) f)) : PSs X r (rdS (cx X fa ca Wx) fun ρ => match frzE i ρ with
    | some ρ1 => f ρ1
    | none => .bad) := PSs.mono h fun D σ H ⟨W, ρ, rs, h⟩ => by
  dsimp only at h
  cases e : frzE i ρ with
  | none => rw [e] at h; exact h.elim
  | some ρ1 =>
    rw [e] at h
    obtain ⟨W', fz⟩ := frz_fx rs e
    exact ⟨W', ρ1, fz.rs, OcS.step rs fz h⟩
end
end Mp

set_option maxRecDepth 100000
set_option maxHeartbeats 4000000
/-! MpX: xs.index(y) . -/
namespace Mp
open PySem PySem.Spec PyProof.Rows L2
theorem idxL_ok (y : P) : ∀ (xs : List P) (n : Nat) (c : P), idxL y xs n = some c → ∃ j z, c = .int ((n + j : Nat) : Int) ∧ xs[j]? = some z ∧ PyData.eqv z y = true ∧ ∀ m z', m < j → xs[m]? = some z' → PyData.eqv z' y = false
  | [], _, _, h => by cases h
  | x :: xs, n, c, h => by
    unfold idxL at h
    by_cases hx : PyData.eqv x y = true
    · rw [if_pos hx] at h
      cases h
      exact ⟨0, x, rfl, rfl, hx, fun m z' hm => absurd hm (Nat.not_lt_zero m)⟩
    · rw [if_neg hx] at h
      obtain ⟨j, z, h1, h2, h3, h4⟩ := idxL_ok y xs (n + 1) c h
      refine ⟨j + 1, z, by rw [h1]; congr 2; omega, by simpa using h2, h3, fun m z' hm hz => ?_⟩
      cases m with
      | zero =>
        have : x = z' := by simpa using hz
        subst this
        simpa using hx
      | succ m => exact h4 m z' (by omega) (by simpa using hz)
variable {X : Cx} {fa : FT} {ca : FA} {Wx : WX}
theorem ex_index (hu : Un X) {x : Str} {px apos cpos : Pos} {b : Expr} {q q' : Pr} (d : Der X fa ca Wx (.Name x px) q) (d' : Der X fa ca Wx b q') (hline : (apos.endLine == cpos.line) = true) :
    PE X (.Call (.Attribute (.Name x px) "index" apos) [b] [] cpos) (rd (cx X fa ca Wx) fun ρ => (q.v ρ).bind fun r ρ1 => match derefP ρ1 r with
      | some (.list _) => (q'.v ρ1).bind fun s ρ2 => bi2 false idxP r s ρ2
      | _ => .bad) := by
  have hst := plain_star d'.sy [] X.env
  refine PE.mono (pe_bm PySem.F.plainAttrs_list PySem.F.slot_list_index PySem.F.type_list_index (mt_indexD (by have := hu; omega)) d.v (pa_cons d'.v pa_nil hst) rfl (by rw [hst]; rfl) hline hst rfl) fun σ H Q ⟨W, ρ, rs, h⟩ => ?_
  refine rd_then rs h fun W1 ρ1 H1 r v f1 q1 h1 => ?_
  cases e1 : derefP ρ1 r with
  | none => rw [e1] at h1; exact h1.elim
  | some x1 =>
    rw [e1] at h1
    cases x1 with
    | list ds =>
      obtain ⟨a, vs, ea, ha, _⟩ := ro_lst (q1.ro f1.rs e1)
      subst ea
      refine ⟨.inl ⟨rfl, vs, .inl (.inl ha)⟩, ?_⟩
      refine rd_then f1.rs h1 fun W2 ρ2 H2 s u f2 q2 h2 => ?_
      obtain ⟨W', x1, y1, z, hd', r1, r2, e, q⟩ := bi2s_fin f2.rs h2 (q1.pers f1.rs f2) q2
      cases x1 with
      | list ds' =>
        have e' : (if (PyData.list ds').depth ≤ 64 ∧ y1.depth ≤ 64 then idxL y1 ds' 0 else none) = some z := e
        by_cases hd : (PyData.list ds').depth ≤ 64 ∧ y1.depth ≤ 64
        rotate_left
        · rw [if_neg hd] at e'; cases e'
        rw [if_pos hd] at e'
        obtain ⟨j, z', rfl, h3, h4, h5⟩ := idxL_ok y1 ds' 0 z e'
        rw [Nat.zero_add] at q
        exact ⟨a, u, y1, ds', j, z', rfl, rfl, r1.dp, r2.dp, Bool.and_eq_true_iff.mpr ⟨r1.can, decide_eq_true hd.1⟩, Bool.and_eq_true_iff.mpr ⟨r2.can, decide_eq_true hd.2⟩, h3, h4, h5, q _ _ (fun _ _ e => e) (.int _)⟩
      | _ => cases e
    | _ => exact h1.elim
end Mp

set_option maxRecDepth 100000
set_option maxHeartbeats 4000000
/-! Mp17: from the text to the evaluator's language; expressions. -/
namespace Mp
open PySem PySem.Spec PyProof.Rows L2

/-- what a name of the module is -/
inductive GV where
  | fn (i : Nat)
  | cst (c : P)
  | exc (c : Nat)
structure CE where
  N : List Str
  sc : Scope
  fn : Str → Bool
  /-- the module's names -/
  g : List (Str × GV)
  /-- names that the module leaves free -/
  b : List Str
  /-- it makes lambdas; what these may call -/
  lam : Bool
  g0 : List (Str × GV)
def visB (sc : Scope) (x : Str) : Bool := match sc.names.lookup x with
  | some .local => true | some .cell => true | some .free => true | _ => false
theorem visB_ok {sc : Scope} {x : Str} (h : visB sc x = true) : Vis sc x := by
  unfold visB at h
  split at h
  · rename_i e; exact .inl e
  · rename_i e; exact .inr (.inl e)
  · rename_i e; exact .inr (.inr e)
  · cases h
def glB (sc : Scope) (x : Str) : Bool := (match sc.names.lookup x with
  | some .globalImplicit => true | _ => false) && !(x == ("__debug__" : Str))
def slB (ce : CE) (x : Str) : Option Nat := if visB ce.sc x && !(x == ("__debug__" : Str)) && !(x == ("__classdict__" : Str)) then (match ce.N.findIdx? (· == x) with
    | some i => if ce.N[i]? = some x then some i else none
    | none => none) else none
def cName (ce : CE) (x : Str) : Option Tm := match slB ce x with
  | some i => some (.var i x)
  | none => if glB ce.sc x then (match ce.g.lookup x with
    | some (.fn i) => some (.fn i)
    | some (.cst c) => some (.glob x c)
    | _ => none) else none
def cConst : Const → Option Tm
  | .none => some (.cst .none)
  | .bool b => some (.cst (.bool b))
  | .int i => some (.cst (.int i))
  | .str s => if PyData.strOk s && decide (s.length ≤ 16777216) then some (.cst (.str s)) else none
  | _ => none
def cBin : Operator → Option BOp
  | .Add => some .add | .Sub => some .sub | .Mult => some .mul | .FloorDiv => some .fdiv | .Mod => some .mod | .Pow => some .pow
  | _ => none
theorem cBin_ok {op : Operator} {o : BOp} (h : cBin op = some o) : op = o.op := by
  cases op <;> first | (cases h; rfl) | cases h
def cCmp : CmpOp → Option COp
  | .Eq => some .eq | .NotEq => some .ne | .Lt => some .lt | .Gt => some .gt | .LtE => some .le | .GtE => some .ge
  | .Is => some .is | .IsNot => some .isnot | .In => some .in_ | .NotIn => some .notin
theorem cCmp_ok {op : CmpOp} {o : COp} (h : cCmp op = some o) : op = o.op := by
  cases op <;> first | (cases h; rfl) | cases h
def cL (f : Expr → Option Tm) : List Expr → Option Tms
  | [] => some .nil
  | e :: es => match f e, cL f es with
    | some t, some ts => some (.cons t ts)
    | _, _ => none
def cTo (f : Expr → Option Tm) : Option Expr → Option To
  | none => some .no
  | some e => (f e).map .yes
def isRev : Expr → Bool
  | .Slice none none (some (.UnaryOp .USub (.Constant (.int 1) _ _) _)) _ => true
  | _ => false
def cSub (f : Expr → Option Tm) (a : Expr) : Expr → Option Tm
  | .Slice lo hi none _ => match f a, cTo f lo, cTo f hi with
    | some t, some l, some h => some (.sl t l h)
    | _, _, _ => none
  | i => if isRev i then (f a).map .rev else if plainE i then (match f a, f i with
    | some s, some t => some (.ix s t)
    | _, _ => none) else none
def biTab : List (Str × Bi) := [("len", .len), ("tuple", .tuple), ("all", .all), ("int", .int), ("list", .list), ("abs", .abs), ("any", .any), ("sum", .sum), ("str", .str), ("sorted", .sorted), ("max", .max), ("min", .min)]
def tyTab : List (Str × Ty) := [("tuple", .tuple), ("int", .int), ("bool", .bool), ("str", .str), ("list", .list)]
/-- the name is a builtin's here -/
def bltB (ce : CE) (x : Str) : Bool := glB ce.sc x && decide (x ∈ ce.b)
def cIsi (ce : CE) (f : Expr → Option Tm) (x : Str) (a : Expr) : Expr → Option Tm
  | .Name T _ => if x = ("isinstance" : Str) then (match tyTab.lookup T, f a with
      | some ty, some t => if bltB ce T then some (.bi (.isi ty) t) else none
      | _, _ => none) else none
  | _ => none
def cCall (ce : CE) (f : Expr → Option Tm) (x : Str) (es : List Expr) : Option Tm := match ce.g.lookup x with
  | some (.fn i) => if glB ce.sc x then (cL f es).map (.call i) else none
  | some _ => none
  | none => if bltB ce x then (match es with
    | [a] => (match biTab.lookup x, f a with
      | some b, some t => some (.bi b t)
      | _, _ => none)
    | [a, b] => if x = ("max" : Str) ∨ x = ("min" : Str) then (match f a, f b with
      | some s, some t => some (.mx (decide (x = ("max" : Str))) s t)
      | _, _ => none) else cIsi ce f x a b
    | _ => none) else none
/-- a name that is stored -/
def stB (ce : CE) (x : Str) : Option Nat := match slB ce x, ce.sc.names.lookup x with
  | some i, some .local => some i
  | some i, some .cell => if ce.fn x = true then some i else none
  | _, _ => none
def cNms (ce : CE) : List Expr → Option (List (Nat × Str))
  | [] => some []
  | .Name x _ :: es => match stB ce x, cNms ce es with
    | some i, some r => some ((i, x) :: r)
    | _, _ => none
  | _ => none
def cTg (ce : CE) : Expr → Option Tg
  | .Name x _ => (stB ce x).map fun i => .nm i x
  | .Tuple es _ _ => (cNms ce es).map .tp
  | _ => none
def isTup : Expr → Bool
  | .Tuple .. => true
  | _ => false
inductive ItK where | rng | rng2 | rng3 | zip | enum | seq
def itK (ce : CE) (tg : Expr) (x : Str) (es : List Expr) : ItK := match es with
  | [_] => if x = ("range" : Str) then .rng else if x = ("enumerate" : Str) ∧ isTup tg = true then .enum else .seq
  | [_, _, _] => if x = ("range" : Str) then .rng3 else .seq
  | [_, _] => if x = ("range" : Str) then .rng2 else if x = ("zip" : Str) ∧ isTup tg = true then .zip else .seq
  | _ => .seq
def cIt (ce : CE) (f : Expr → Option Tm) (tg : Expr) (e : Expr) : Option Tit := match e with
  | .Call (.Name x p) es [] pos => match itK ce tg x es, es with
    | .rng, [a] => if bltB ce x then (f a).map .rng else none
    | .enum, [a] => if bltB ce x then (f a).map .enum else none
    | .rng2, [a, b] => if bltB ce x then (match f a, f b with
      | some s, some t => some (.rng2 s t)
      | _, _ => none) else none
    | .rng3, [a, b, c] => if bltB ce x then (match f a, f b, f c with
      | some s, some t, some u => some (.rng3 s t u)
      | _, _, _ => none) else none
    | .zip, [a, b] => if bltB ce x then (match f a, f b with
      | some s, some t => some (.zip s t)
      | _, _ => none) else none
    | .seq, _ => (f (.Call (.Name x p) es [] pos)).map .seq
    | _, _ => none
  | e => (f e).map .seq
def CE.blk (ce : CE) (scope : Scope) : CE := { ce with sc := relS scope ce.sc, fn := fun x => scope.names.lookup x == some .cell, lam := false }
/-- a block's own names, with their slots -/
def ownN (N : List Str) (scope : Scope) : List (Str × Nat) := scope.names.filterMap fun y => match y.2 with
  | .local => (N.findIdx? (· == y.1)).map fun i => (y.1, i)
  | .cell => (N.findIdx? (· == y.1)).map fun i => (y.1, i)
  | _ => none
def cIfs (f : Expr → Option Tm) : List Expr → Option To
  | [] => some .no
  | [c] => (f c).map .yes
  | _ => none
/-- a lambda's one parameter -/
def lamP : Arguments → Option Str
  | ⟨[], [⟨p, _, _⟩], none, [], [], none, []⟩ => if p = "row" ∨ p = "own" ∨ p = "table" then some p else none
  | _ => none
def lamNB (sc scope : Scope) (p : Str) : Bool :=
  decide (scope.kind = .function) && !scope.isCoroutine && !scope.isGenerator && decide (scope.names.lookup p = some .local) && scope.names.all fun y => !decide (y.2 = .cell) && (!decide (y.2 = .local) || decide (y.1 = p)) && (!decide (y.2 = .free) || decide (sc.names.lookup y.1 = some .cell) || decide (sc.names.lookup y.1 = some .free))
def capN (N : List Str) (scope : Scope) : List (Nat × Str) := scope.names.filterMap fun y => match y.2 with
  | .free => (N.findIdx? (· == y.1)).map fun i => (i, y.1)
  | _ => none
def CE.lamb (ce : CE) (scope : Scope) (p : Str) : CE := ⟨p :: (capN ce.N scope).map (·.2), scope, fun _ => false, ce.g0, ce.b, false, []⟩
/-- what is asked of a lambda -/
def lamB (ce : CE) (scope : Scope) (p : Str) : Bool := ce.lam && bltB ce "sorted" && lamNB ce.sc scope p && decide ((p :: (capN ce.N scope).map (·.2)).Nodup) && (capN ce.N scope).all fun q => decide (ce.N[q.1]? = some q.2) && decide (scope.names.lookup q.2 = some .free)
def cE (ce : CE) : Nat → Expr → Option Tm
  | 0, _ => none
  | n + 1, e => match e with
    | .Name x _ => cName ce x
    | .Constant c _ _ => cConst c
    | .BinOp a op b _ => (match cBin op, cE ce n a, cE ce n b with
      | some o, some s, some t => some (.bin o s t)
      | _, _, _ => none)
    | .UnaryOp .USub a _ => (cE ce n a).map .neg
    | .UnaryOp .Not a _ => (cE ce n a).map .notE
    | .BoolOp op (e :: es) _ => (cL (cE ce n) (e :: es)).map (.bop (match op with | .Or => true | .And => false))
    | .Compare a [op] [b] _ => (match cCmp op, cE ce n a, cE ce n b with
      | some o, some s, some t => some (.cmp o s t)
      | _, _, _ => none)
    | .Compare a [op, op'] [b, c] _ => (match cCmp op, cCmp op', cE ce n a, cE ce n b, cE ce n c with
      | some o, some o', some s, some t, some u => some (.chain o o' s t u)
      | _, _, _, _, _ => none)
    | .IfExp c a b _ => (match cE ce n c, cE ce n a, cE ce n b with
      | some s, some t, some u => some (.ife s t u)
      | _, _, _ => none)
    | .Tuple es _ _ => (cL (cE ce n) es).map .tup
    | .List es _ => (cL (cE ce n) es).map .lst
    | .Subscript a i _ => cSub (cE ce n) a i
    | .Call (.Name x _) es [] _ => cCall ce (cE ce n) x es
    | .Call (.Name x _) [a] [⟨some y, .Lambda params body scope _, _⟩] _ => if x = ("sorted" : Str) ∧ y = ("key" : Str) then (match lamP params with
      | some p => if lamB ce scope p then (match cE (ce.lamb scope p) n body, cE ce n a with
        | some s, some t => some (.sortK p (capN ce.N scope) s t)
        | _, _ => none) else none
      | none => none) else none
    | .Call (.Attribute (.Name x px) y apos) [b] [] cpos => if y = ("index" : Str) ∧ (apos.endLine == cpos.line) = true then (match cE ce n (.Name x px), cE ce n b with
      | some s, some t => some (.idx s t)
      | _, _ => none) else none
    | .ListComp elt [⟨tg, iter, ifs, 0⟩] scope _ =>
      if blkC ce.N ce.sc scope (ownN ce.N scope) then
      (match cIt ce (cE ce n) tg iter, cTg (ce.blk scope) tg, cIfs (cE (ce.blk scope) n) ifs, cE (ce.blk scope) n elt with
      | some it, some g, some c, some t => if plainE iter && g.ix.all (fun i => decide (i ∈ (ownN ce.N scope).map (·.2))) then some (.comp (ownN ce.N scope) g it c t) else none
      | _, _, _, _ => none) else none
    | .ListComp elt [⟨tg, iter, ifs, 0⟩, ⟨tg1, iter1, ifs1, 0⟩] scope _ =>
      if blkC ce.N ce.sc scope (ownN ce.N scope) then
      (match cIt ce (cE ce n) tg iter, cTg (ce.blk scope) tg, cIfs (cE (ce.blk scope) n) ifs, cIt (ce.blk scope) (cE (ce.blk scope) n) tg1 iter1, cTg (ce.blk scope) tg1, cIfs (cE (ce.blk scope) n) ifs1, cE (ce.blk scope) n elt with
      | some it, some g, some c, some it1, some g1, some c1, some t => if plainE iter && plainE iter1 && g.ix.all (fun i => decide (i ∈ (ownN ce.N scope).map (·.2))) && g1.ix.all (fun i => decide (i ∈ (ownN ce.N scope).map (·.2))) then some (.comp2 (ownN ce.N scope) g1.ix g it c g1 it1 c1 t) else none
      | _, _, _, _, _, _, _ => none) else none
    | _ => none

/-! ### it is the text's meaning -/
structure ExcOk (X : Cx) (ca : FA) (c : Nat) (x : Str) : Prop where
  F : ∃ bmB B newId initId, ExcBaseFacts B newId initId bmB ∧ PySem.W.excIn X.K (ca c) bmB newId = true
  mg : X.mg x = some (.ref (ca c))
  kp : PySem.W.keepIn X.K (.ref (ca c)) = true
  r : Raises X (.ref (ca c))
structure XOk (ce : CE) (fa : FT) (ca : FA) (k : Nat) (Φ : Fs) (Wx : WX) (X : Cx) : Prop where
  N : X.N = ce.N
  sc : X.env.scope = ce.sc
  fn : ∀ x, ce.fn x = true → X.fn x = true
  nd : X.N.Nodup
  calm : X.calm = true
  un : Un X
  room : Room k X.A
  tk : Takes X Wx
  fns : ∀ x i, ce.g.lookup x = some (.fn i) → FnC X fa ca k Φ i x
  cst : ∀ x c, ce.g.lookup x = some (.cst c) → ∃ u v, X.mg x = some u ∧ RelV v u ∧ ∀ W H, Rp X.K W H c v
  exc : ∀ x c, ce.g.lookup x = some (.exc c) → ExcOk X ca c x
  blt : ∀ x ∈ ce.b, X.mg x = none
  lam : ce.lam = true → MkL X fa.t ∧ Room (k + 1) X.A ∧ (∀ x i, ce.g0.lookup x = some (.fn i) → FnC X ⟨fa.f, []⟩ ca k Φ i x) ∧ (∀ x c, ce.g0.lookup x = some (.cst c) → ∃ u v, X.mg x = some u ∧ RelV v u ∧ ∀ W H, Rp X.K W H c v) ∧ ∀ x c, ce.g0.lookup x ≠ some (.exc c)
theorem XOk.blk {ce : CE} {fa : FT} {ca : FA} {k : Nat} {Φ : Fs} {Wx : WX} {X : Cx} (h : XOk ce fa ca k Φ Wx X) (s : Shared) (H : Hp) (scope : Scope) (C : Addr) (cl : List (Str × Addr)) (fp : List Addr) : XOk (ce.blk scope) fa ca k Φ WF (X.blk s H scope (compEnvC scope cl C X.env) fp) where
  N := h.N
  sc := by show relS scope X.env.scope = relS scope ce.sc; rw [h.sc]
  fn := fun x hx => hx
  nd := h.nd
  calm := h.calm
  un := h.un
  room := h.room
  tk := takes0
  fns := fun x i e => ⟨(h.fns x i e).mg, (h.fns x i e).kp, (h.fns x i e).ok⟩
  cst := h.cst
  exc := fun x c e => ⟨(h.exc x c e).F, (h.exc x c e).mg, (h.exc x c e).kp, (h.exc x c e).r⟩
  blt := h.blt
  lam := fun z => nomatch (show false = true from z)
section
variable {ce : CE} {fa : FT} {ca : FA} {k : Nat} {Φ : Fs} {Wx : WX} {X : Cx}
theorem glB_ok {x : Str} (h : XOk ce fa ca k Φ Wx X) (e : glB ce.sc x = true) : Gl X x ∧ (x == ("__debug__" : Str)) = false := by
  unfold glB at e
  rw [Bool.and_eq_true] at e
  obtain ⟨e1, e2⟩ := e
  refine ⟨?_, by simpa using e2⟩
  show X.env.scope.names.lookup x = some .globalImplicit
  rw [h.sc]
  split at e1
  · assumption
  · cases e1
theorem slB_ok {x : Str} {i : Nat} (h : XOk ce fa ca k Φ Wx X) (e : slB ce x = some i) : X.N[i]? = some x ∧ Vis X.env.scope x ∧ (x == ("__debug__" : Str)) = false ∧ (x == ("__classdict__" : Str)) = false := by
  unfold slB at e
  split at e
  · rename_i hc
    rw [Bool.and_eq_true, Bool.and_eq_true] at hc
    obtain ⟨⟨h1, h2⟩, h3⟩ := hc
    split at e
    · split at e
      · rename_i hi
        cases e
        exact ⟨by rw [h.N]; exact hi, by rw [h.sc]; exact visB_ok h1, by simpa using h2, by simpa using h3⟩
      · cases e
    · cases e
  · cases e
theorem stB_ok {x : Str} {i : Nat} (h : XOk ce fa ca k Φ Wx X) (e : stB ce x = some i) : StN X i x := by
  unfold stB at e
  split at e
  · rename_i j e1 hl
    cases e
    obtain ⟨h1, _⟩ := slB_ok h e1
    refine ⟨h1, .inl ?_, .inr ?_⟩ <;> rw [h.sc] <;> exact hl
  · rename_i j e1 hl
    obtain ⟨h1, _⟩ := slB_ok h e1
    split at e
    · rename_i hc
      cases e
      exact ⟨h1, .inr (by rw [h.sc]; exact hl), .inl (h.fn _ hc)⟩
    · cases e
  · cases e
theorem cNms_ok (h : XOk ce fa ca k Φ Wx X) : ∀ {es : List Expr} {ts : List (Nat × Str)}, cNms ce es = some ts → NmsE X ts es
  | [], _, e => by cases e; exact .nil
  | e0 :: es, ts, e => by
    cases e0 <;> first
      | (unfold cNms at e
         split at e
         · rename_i h1 h2
           cases e
           exact .cons (stB_ok h h1) (cNms_ok h h2)
         · cases e)
      | (unfold cNms at e; cases e)
theorem cTg_ok (h : XOk ce fa ca k Φ Wx X) {e : Expr} {t : Tg} (hc : cTg ce e = some t) (W : WX) : PG X e (gTg (cx X fa ca W) t) := by
  cases e <;> first
    | (unfold cTg at hc
       obtain ⟨i, h1, h2⟩ := Option.map_eq_some_iff.mp hc
       subst h2
       first
         | exact tg_nm h.nd (stB_ok h h1)
         | exact tg_tp h.calm h.nd (cNms_ok h h1))
    | (unfold cTg at hc; cases hc)
theorem bltB_ok {x : Str} (h : XOk ce fa ca k Φ Wx X) (e : bltB ce x = true) : Gl X x ∧ (x == ("__debug__" : Str)) = false ∧ X.mg x = none := by
  unfold bltB at e
  rw [Bool.and_eq_true, decide_eq_true_eq] at e
  exact ⟨(glB_ok h e.1).1, (glB_ok h e.1).2, h.blt _ e.2⟩
def DerF (X : Cx) (fa : FT) (ca : FA) (Φ : Fs) (Wx : WX) (f : Expr → Option Tm) : Prop := ∀ e t, f e = some t → Der X fa ca Wx e (ev Φ t)
theorem cL_ok {f : Expr → Option Tm} (ih : DerF X fa ca Φ Wx f) : ∀ {es : List Expr} {ts : Tms}, cL f es = some ts → Paired (Der X fa ca Wx) es (evl Φ ts)
  | [], _, e => by cases e; exact .nil
  | e0 :: es, ts, e => by
    unfold cL at e
    split at e
    · rename_i h1 h2
      cases e
      exact .cons (ih _ _ h1) (cL_ok ih h2)
    · cases e
theorem cTo_ok {f : Expr → Option Tm} (ih : DerF X fa ca Φ Wx f) {e : Option Expr} {t : To} (h : cTo f e = some t) : PO X e (rdO (cx X fa ca Wx) (evo Φ t)) := by
  cases e with
  | none => cases h; exact po_no
  | some e =>
    obtain ⟨s, h1, h2⟩ := Option.map_eq_some_iff.mp h
    subst h2
    exact po_yes (ih _ _ h1).v
/-- by its value -/
theorem der_v {e : Expr} {f : Env → R RV} (hv : PE X e (rd (cx X fa ca Wx) f)) (hs : plainE e = true) (he : ∀ whole, isTrue e X.env whole = (do let v ← whole; standAt e.pos; holding [v] (truthy v))) : Der X fa ca Wx e (ofV f) :=
  ⟨hv, et_of_val he hv, fun _ => rfl, hs⟩
theorem cConst_ok {c : Const} {kk : Nat} {pos : Pos} {t : Tm} (h : cConst c = some t) : Der X fa ca Wx (.Constant c kk pos) (ev Φ t) := by
  cases c with
  | none => cases h; exact der_v ex_const_none rfl fun _ => rfl
  | bool b => cases h; exact der_v (ex_const_bool b) rfl fun _ => rfl
  | int i => cases h; exact der_v (ex_const_int i) rfl fun _ => rfl
  | str s =>
    have h : (if (PyData.strOk s && decide (s.length ≤ 16777216)) = true then some (Tm.cst (.str s)) else none) = some t := h
    split at h
    · rename_i hc
      rw [Bool.and_eq_true, decide_eq_true_eq] at hc
      cases h
      exact der_v (ex_const_str s hc.1 hc.2) rfl fun _ => rfl
    · cases h
  | _ => cases h
theorem cName_ok (h : XOk ce fa ca k Φ Wx X) {x : Str} {pos : Pos} {t : Tm} (e : cName ce x = some t) : Der X fa ca Wx (.Name x pos) (ev Φ t) := by
  unfold cName at e
  cases e1 : slB ce x with
  | some i =>
    rw [e1] at e
    cases e
    obtain ⟨h1, h2, h3, h4⟩ := slB_ok h e1
    exact der_v (ex_var i h1 h2 h3 h4) rfl fun _ => rfl
  | none =>
    rw [e1] at e
    simp only at e
    split at e
    · rename_i hg
      obtain ⟨g1, g2⟩ := glB_ok h hg
      split at e
      · rename_i i el
        cases e
        refine der_v (PE.mono (pe_glob g1 (h.fns _ _ el).mg (show RelV (V.ref (fa i)) (.ref (fa i)) from rfl) g2) fun σ H Q ⟨W, ρ, rs, q⟩ => ?_) rfl fun _ => rfl
        exact q W _ H (FxE.refl rs) rfl
      · rename_i c el
        cases e
        obtain ⟨u, v, hm, r, rp⟩ := h.cst _ _ el
        refine der_v (PE.mono (pe_glob g1 hm r g2) fun σ H Q ⟨W, ρ, rs, q⟩ => ?_) rfl fun _ => rfl
        exact q W _ H (FxE.refl rs) (rp W H)
      · cases e
    · cases e
end
end Mp

set_option maxRecDepth 100000
set_option maxHeartbeats 4000000
/-! Mp18: the text's expressions mean what the evaluator says. -/
namespace Mp
open PySem PySem.Spec PyProof.Rows L2

theorem boot_all' : bootBuiltins "all" = some (.builtin "all") := by kernel_rfl
theorem boot_any' : bootBuiltins "any" = some (.builtin "any") := by kernel_rfl
theorem boot_len' : bootBuiltins "len" = some (.builtin "len") := by kernel_rfl
theorem boot_abs' : bootBuiltins "abs" = some (.builtin "abs") := by kernel_rfl
theorem boot_sum' : bootBuiltins "sum" = some (.builtin "sum") := by kernel_rfl
theorem boot_int' : bootBuiltins "int" = some (.type "int") := by kernel_rfl
theorem boot_sorted' : bootBuiltins "sorted" = some (.builtin "sorted") := by kernel_rfl
theorem boot_max' : bootBuiltins "max" = some (.builtin "max") := by kernel_rfl
theorem boot_min' : bootBuiltins "min" = some (.builtin "min") := by kernel_rfl
theorem boot_str' : bootBuiltins "str" = some (.type "str") := by kernel_rfl
theorem boot_tuple' : bootBuiltins "tuple" = some (.type "tuple") := by kernel_rfl

section
variable {ce : CE} {fa : FT} {ca : FA} {k : Nat} {Φ : Fs} {Wx : WX} {X : Cx}
theorem bi_ok (h : XOk ce fa ca k Φ Wx X) {x : Str} {b : Bi} (hb : biTab.lookup x = some b) (hx : bltB ce x = true) {a : Expr} {t : Tm} (d : Der X fa ca Wx a (ev Φ t)) {p pos : Pos} : Der X fa ca Wx (.Call (.Name x p) [a] [] pos) (ev Φ (.bi b t)) := by
  obtain ⟨g, gd, gm⟩ := bltB_ok h hx
  have hm := PySem.mem_of_lookup hb
  simp only [biTab, List.mem_cons, Prod.mk.injEq, List.not_mem_nil, or_false] at hm
  rcases hm with ⟨rfl, rfl⟩ | ⟨rfl, rfl⟩ | ⟨rfl, rfl⟩ | ⟨rfl, rfl⟩ | ⟨rfl, rfl⟩ | ⟨rfl, rfl⟩ | ⟨rfl, rfl⟩ | ⟨rfl, rfl⟩ | ⟨rfl, rfl⟩ | ⟨rfl, rfl⟩ | ⟨rfl, rfl⟩ | ⟨rfl, rfl⟩
  · exact der_v (ex_biB cD_len g gm boot_len' (by decide) gd d) rfl fun _ => rfl
  · exact der_v (ex_biT cD_tuple g gm boot_tuple' (by decide) gd d) rfl fun _ => rfl
  · exact der_v (ex_biB (cD_all h.calm) g gm boot_all' (by decide) gd d) rfl fun _ => rfl
  · exact der_v (ex_biT cD_int g gm boot_int' (by decide) gd d) rfl fun _ => rfl
  · exact der_v (ex_list (x := "list") g gm d) rfl fun _ => rfl
  · exact der_v (ex_biB cD_abs g gm boot_abs' (by decide) gd d) rfl fun _ => rfl
  · exact der_v (ex_biB (cD_any h.calm) g gm boot_any' (by decide) gd d) rfl fun _ => rfl
  · exact der_v (ex_biB (cD_sum h.calm) g gm boot_sum' (by decide) gd d) rfl fun _ => rfl
  · exact der_v (ex_biT cD_str g gm boot_str' (by decide) gd d) rfl fun _ => rfl
  · exact der_v (ex_biB (cD_sorted h.un) g gm boot_sorted' (by decide) gd d) rfl fun _ => rfl
  · exact der_v (ex_biB (cD_max h.calm) g gm boot_max' (by decide) gd d) rfl fun _ => rfl
  · exact der_v (ex_biB (cD_min h.calm) g gm boot_min' (by decide) gd d) rfl fun _ => rfl
theorem isi_ok (h : XOk ce fa ca k Φ Wx X) {T : Str} {ty : Ty} (hb : tyTab.lookup T = some ty) (hx : bltB ce "isinstance" = true) (hT : bltB ce T = true) {a : Expr} {t : Tm} (d : Der X fa ca Wx a (ev Φ t)) {p p2 pos : Pos} : Der X fa ca Wx (.Call (.Name "isinstance" p) [a, .Name T p2] [] pos) (ev Φ (.bi (.isi ty) t)) := by
  obtain ⟨g, gd, gm⟩ := bltB_ok h hx
  obtain ⟨g2, gd2, gm2⟩ := bltB_ok h hT
  have hm := PySem.mem_of_lookup hb
  simp only [tyTab, List.mem_cons, Prod.mk.injEq, List.not_mem_nil, or_false] at hm
  rcases hm with ⟨rfl, rfl⟩ | ⟨rfl, rfl⟩ | ⟨rfl, rfl⟩ | ⟨rfl, rfl⟩ | ⟨rfl, rfl⟩
  · exact der_v (ex_isi .tuple g gm g2 gm2 d) rfl fun _ => rfl
  · exact der_v (ex_isi .int g gm g2 gm2 d) rfl fun _ => rfl
  · exact der_v (ex_isi .bool g gm g2 gm2 d) rfl fun _ => rfl
  · exact der_v (ex_isi .str g gm g2 gm2 d) rfl fun _ => rfl
  · exact der_v (ex_isi .list g gm g2 gm2 d) rfl fun _ => rfl
theorem cCall_ok (h : XOk ce fa ca k Φ Wx X) {f : Expr → Option Tm} (ih : DerF X fa ca Φ Wx f) {x : Str} {es : List Expr} {t : Tm} {p pos : Pos} (e : cCall ce f x es = some t) : Der X fa ca Wx (.Call (.Name x p) es [] pos) (ev Φ t) := by
  unfold cCall at e
  split at e
  · rename_i i el
    split at e
    · rename_i hg
      obtain ⟨g1, g2⟩ := glB_ok h hg
      obtain ⟨ts, h1, h2⟩ := Option.map_eq_some_iff.mp e
      subst h2
      exact der_v (ex_call (h.fns _ _ el) h.room h.tk g1 g2 (cL_ok ih h1)) rfl fun _ => rfl
    · cases e
  · cases e
  · split at e
    · rename_i hx
      split at e
      · split at e
        · rename_i h1 h2
          cases e
          exact bi_ok h h1 hx (ih _ _ h2)
        · cases e
      · split at e
        · rename_i hmm
          split at e
          · rename_i h1 h2
            cases e
            obtain ⟨g, gd, gm⟩ := bltB_ok h hx
            rcases hmm with rfl | rfl
            · exact der_v (ex_mx true (call_max2 h.calm) g gm boot_max' (by decide) gd (ih _ _ h1) (ih _ _ h2)) rfl fun _ => rfl
            · exact der_v (ex_mx false (call_min2 h.calm) g gm boot_min' (by decide) gd (ih _ _ h1) (ih _ _ h2)) rfl fun _ => rfl
          · cases e
        · unfold cIsi at e
          split at e
          · split at e
            · rename_i hi
              subst hi
              split at e
              · rename_i h1 h2
                split at e
                · rename_i hT
                  cases e
                  exact isi_ok h h1 hx hT (ih _ _ h2)
                · cases e
              · cases e
            · cases e
          · cases e
      · cases e
    · cases e
theorem cSub_ok {f : Expr → Option Tm} (ih : DerF X fa ca Φ Wx f) {a i : Expr} {t : Tm} {pos : Pos} (e : cSub f a i = some t) : Der X fa ca Wx (.Subscript a i pos) (ev Φ t) := by
  unfold cSub at e
  split at e
  · split at e
    · rename_i h1 h2 h3
      cases e
      exact der_v (ex_sl (ih _ _ h1).v (cTo_ok ih h2) (cTo_ok ih h3)) rfl fun _ => rfl
    · cases e
  · split at e
    · rename_i hr
      obtain ⟨s, h1, h2⟩ := Option.map_eq_some_iff.mp e
      subst h2
      unfold isRev at hr
      split at hr
      · exact der_v (ex_rev (ih _ _ h1).v) rfl fun _ => rfl
      · cases hr
    · split at e
      · rename_i hp
        split at e
        · rename_i h1 h2
          cases e
          exact der_v (ex_ix (ih _ _ h1).v (ih _ _ h2).v (plain_ix hp)) rfl fun _ => rfl
        · cases e
      · cases e
theorem cIt_ok (h : XOk ce fa ca k Φ Wx X) {f : Expr → Option Tm} (ih : DerF X fa ca Φ Wx f) {tg e : Expr} {t : Tit} (hc : cIt ce f tg e = some t) : PI X tg e (rdI (cx X fa ca Wx) (evi Φ t)) := by
  have seq : ∀ {e : Expr} {t : Tit}, (f e).map Tit.seq = some t → PI X tg e (rdI (cx X fa ca Wx) (evi Φ t)) := fun {e t} hc => by
    obtain ⟨s, h1, h2⟩ := Option.map_eq_some_iff.mp hc
    subst h2
    exact it_seq (ih _ _ h1).v
  unfold cIt at hc
  split at hc
  · rename_i x p es pos
    split at hc
    · rename_i a hk
      have hx : x = ("range" : Str) := by
        unfold itK at hk
        simp only at hk
        split at hk
        · assumption
        · split at hk <;> cases hk
      subst hx
      split at hc
      · rename_i hb
        obtain ⟨s, h1, h2⟩ := Option.map_eq_some_iff.mp hc
        subst h2
        obtain ⟨g, gd, gm⟩ := bltB_ok h hb
        exact it_rng g gm (ih _ _ h1)
      · cases hc
    · rename_i a hk
      have hx : x = ("enumerate" : Str) ∧ isTup tg = true := by
        unfold itK at hk
        simp only at hk
        split at hk
        · cases hk
        · split at hk
          · assumption
          · cases hk
      obtain ⟨rfl, ht⟩ := hx
      split at hc
      · rename_i hb
        obtain ⟨s, h1, h2⟩ := Option.map_eq_some_iff.mp hc
        subst h2
        obtain ⟨g, gd, gm⟩ := bltB_ok h hb
        unfold isTup at ht
        split at ht
        · exact it_enum g gm (ih _ _ h1)
        · cases ht
      · cases hc
    · rename_i a b hk
      have hx : x = ("range" : Str) := by
        unfold itK at hk
        simp only at hk
        split at hk
        · assumption
        · split at hk <;> cases hk
      subst hx
      split at hc
      · rename_i hb
        split at hc
        · rename_i h1 h2
          cases hc
          obtain ⟨g, gd, gm⟩ := bltB_ok h hb
          exact it_rng2 g gm (ih _ _ h1) (ih _ _ h2)
        · cases hc
      · cases hc
    · rename_i a b c hk
      have hx : x = ("range" : Str) := by
        unfold itK at hk
        simp only at hk
        split at hk
        · assumption
        · cases hk
      subst hx
      split at hc
      · rename_i hb
        split at hc
        · rename_i h1 h2 h3
          cases hc
          obtain ⟨g, gd, gm⟩ := bltB_ok h hb
          exact it_rng3 g gm (ih _ _ h1) (ih _ _ h2) (ih _ _ h3)
        · cases hc
      · cases hc
    · rename_i a b hk
      have hx : x = ("zip" : Str) ∧ isTup tg = true := by
        unfold itK at hk
        simp only at hk
        split at hk
        · cases hk
        · split at hk
          · assumption
          · cases hk
      obtain ⟨rfl, ht⟩ := hx
      split at hc
      · rename_i hb
        split at hc
        · rename_i h1 h2
          cases hc
          obtain ⟨g, gd, gm⟩ := bltB_ok h hb
          unfold isTup at ht
          split at ht
          · exact it_zip g gm (ih _ _ h1) (ih _ _ h2)
          · cases ht
        · cases hc
      · cases hc
    · exact seq hc
    · cases hc
  · exact seq hc
theorem cIfs_ok {f : Expr → Option Tm} (ih : DerF X fa ca Φ Wx f) {es : List Expr} {t : To} (h : cIfs f es = some t) : PTs X es (rdT (cx X fa ca Wx) (etc Φ t)) := by
  unfold cIfs at h
  split at h
  · cases h
    exact PTs.mono pts_nil fun σ H Q ⟨W, ρ, rs, h⟩ => h W H (FxE.refl rs)
  · obtain ⟨s, h1, h2⟩ := Option.map_eq_some_iff.mp h
    subst h2
    exact pts_one (ih _ _ h1).t
  · cases h
theorem pt_ife {c a b : Expr} {pos : Pos} {tA ta tb : TT} (hc : PT X c tA) (ha : PT X a ta) (hb : PT X b tb) : PT X (.IfExp c a b pos) (fun σ H Q => tA σ H fun d H1 => if d = true then ta σ H1 Q else tb σ H1 Q) := by
  refine ⟨fun pins s σ H Q I h => ?_⟩
  show wpAny (model X.prog X.w) X.A (isTrue c X.env (eval c X.env) >>= fun d => if d = true then isTrue a X.env (eval a X.env) else isTrue b X.env (eval b X.env)) _ _ _
  refine wpAny_bind (thn (hc.run pins s σ H _ I h) fun d s1 ⟨H1, I1, q1⟩ => ?_)
  cases d with
  | true => exact ha.run pins s1 σ H1 Q I1 q1
  | false => exact hb.run pins s1 σ H1 Q I1 q1
theorem der_ife {c a b : Expr} {pos : Pos} {p q r : Pr} (hc : Der X fa ca Wx c p) (ha : Der X fa ca Wx a q) (hb : Der X fa ca Wx b r) : Der X fa ca Wx (.IfExp c a b pos) (ofV fun ρ => (p.t ρ).bind fun c ρ1 => if c then q.v ρ1 else r.v ρ1) := by
  refine ⟨ex_ife hc.t ha.v hb.v, PT.mono (pt_ife hc.t ha.t hb.t) fun σ H Q ⟨W, ρ, rs, h⟩ => ?_, fun _ => rfl, rfl⟩
  have h : OcG (cx X fa ca Wx) W ρ σ H (fun b _ _ H' => Q b H') (((p.t ρ).bind fun c ρ1 => if c then q.v ρ1 else r.v ρ1).bind truR) := h
  rw [bind_assoc] at h
  refine rdT_thenG rs h fun W1 ρ1 H1 b f1 h1 => ?_
  cases b with
  | true =>
    rw [if_pos rfl] at h1 ⊢
    exact OcG.rdT f1.rs (by rw [ha.co]; exact h1)
  | false =>
    rw [if_neg Bool.false_ne_true] at h1 ⊢
    exact OcG.rdT f1.rs (by rw [hb.co]; exact h1)
theorem der_not {a : Expr} {pos : Pos} {p : Pr} (d : Der X fa ca Wx a p) : Der X fa ca Wx (.UnaryOp .Not a pos) (ofT fun ρ => (p.t ρ).bind fun b ρ1 => .ok (!b) ρ1) := by
  refine ⟨?_, et_not d.t, fun ρ => ?_, rfl⟩
  · have e : (fun ρ => ((p.v ρ).bind truR).bind fun b ρ1 => (R.ok (shP (.bool (!b))) ρ1 : R RV)) = fun ρ => ((p.t ρ).bind fun b ρ1 => (R.ok (!b) ρ1 : R Bool)).bind fun b ρ1 => .ok (shP (.bool b)) ρ1 := by
      funext ρ
      rw [d.co ρ]
      cases (p.v ρ).bind truR <;> rfl
    have := ex_not (X := X) (fa := fa) (ca := ca) (Wx := Wx) (pos := pos) d.v
    rw [e] at this
    exact this
  · show (p.t ρ).bind (fun b ρ1 => (R.ok (!b) ρ1 : R Bool)) = (((p.t ρ).bind fun b ρ1 => (R.ok (!b) ρ1 : R Bool)).bind fun b ρ1 => .ok (shP (.bool b)) ρ1).bind truR
    cases p.t ρ <;> rfl
end
theorem lam_bind {p : Str} (hp : p = "row" ∨ p = "own" ∨ p = "table") (an : Option Expr) (po : Pos) (q : Str) (body : Expr) (scope : Scope) (cl : List (Str × Addr)) (pm cv ctv u : Value) :
    bindArgs (PySem.W.kla_fn "<lambda>" q ⟨[], [⟨p, an, po⟩], none, [], [], none, []⟩ body scope cl pm cv ctv) ⟨[u], []⟩ = pure [(p, u)] := by
  rcases hp with rfl | rfl | rfl <;> rfl
theorem lamP_ok {params : Arguments} {p : Str} (h : lamP params = some p) : (p = "row" ∨ p = "own" ∨ p = "table") ∧ ∃ an po, params = ⟨[], [⟨p, an, po⟩], none, [], [], none, []⟩ := by
  unfold lamP at h
  split at h
  · split at h
    · rename_i hp
      cases h; exact ⟨hp, _, _, rfl⟩
    · cases h
  · cases h
theorem lamNB_ok {sc scope : Scope} {p : Str} (h : lamNB sc scope p = true) : LamN sc scope p := by
  unfold lamNB at h
  simp only [Bool.and_eq_true, Bool.or_eq_true, Bool.not_eq_true', decide_eq_true_eq, decide_eq_false_iff_not, List.all_eq_true] at h
  obtain ⟨⟨⟨⟨h1, h2⟩, h3⟩, h4⟩, h5⟩ := h
  refine ⟨h1, h2, h3, fun y hy => (h5 y hy).1.1, h4, fun y e => ?_, fun y hy e => ?_⟩
  · rcases (h5 _ (PySem.mem_of_lookup e)).1.2 with z | z
    · exact absurd rfl z
    · exact z
  · rcases (h5 y hy).2 with (z | z) | z
    · exact absurd e z
    · exact .inl z
    · exact .inr z
/-- the lambda's context -/
theorem XOk.lamb {ce : CE} {fa : FT} {ca : FA} {k : Nat} {Φ : Fs} {Wx : WX} {X : Cx} (h : XOk ce fa ca k Φ Wx X) {scope : Scope} {p : Str} (hl : ce.lam = true) (nd : (p :: (capN ce.N scope).map (·.2)).Nodup) (s : Shared) (H : Hp) (f c : Addr) :
    XOk (ce.lamb scope p) ⟨fa.f, []⟩ ca k Φ (fun _ _ _ _ => False) (lamC X X.A.in1.in1 s H (p :: (capN ce.N scope).map (·.2)) scope f c) := by
  obtain ⟨_, hr, l1, l2, l3⟩ := h.lam hl
  have hr2 : Room k (X.A.in1.in1.deeper (lamE X scope s.heap.objs.size f c)) := by
    have r1 := hr.un
    have r2 := hr.dp
    refine ⟨hr.hd, ?_, ?_⟩
    · show X.A.depth + 1 + 3 * k + 5 < _; omega
    · show X.A.units + 1 + 1 + 3 + 16 * k + 200 < _; omega
  exact {
    N := rfl
    sc := rfl
    fn := fun x hx => hx
    nd := nd
    calm := rfl
    un := by have := hr2.un; show (X.A.in1.in1.deeper (lamE X scope s.heap.objs.size f c)).units + 70 < cLine; omega
    room := hr2
    tk := takes0
    fns := fun x i e => ⟨(l1 x i e).mg, (l1 x i e).kp, (l1 x i e).ok⟩
    cst := l2
    exc := fun x c e => absurd e (l3 x c)
    blt := h.blt
    lam := fun z => nomatch (show false = true from z) }
theorem sortK_ok {ce : CE} {fa : FT} {ca : FA} {k : Nat} {Φ : Fs} {Wx : WX} {X : Cx} (h : XOk ce fa ca k Φ Wx X) {params : Arguments} {scope : Scope} {p : Str} (hp : lamP params = some p) (hb : lamB ce scope p = true) {a body : Expr} {s t : Tm} (d : Der X fa ca Wx a (ev Φ t))
    (hs : ∀ (s1 : Shared) (H : Hp) (f c : Addr), Der (lamC X X.A.in1.in1 s1 H (p :: (capN ce.N scope).map (·.2)) scope f c) ⟨fa.f, []⟩ ca (fun _ _ _ _ => False) body (ev Φ s)) {p1 lpos kpos pos : Pos} :
    Der X fa ca Wx (.Call (.Name "sorted" p1) [a] [⟨some "key", .Lambda params body scope lpos, kpos⟩] pos) (ev Φ (.sortK p (capN ce.N scope) s t)) := by
  obtain ⟨hpn, an, po, rfl⟩ := lamP_ok hp
  unfold lamB at hb
  simp only [Bool.and_eq_true, decide_eq_true_eq, List.all_eq_true] at hb
  obtain ⟨⟨⟨⟨hl, hx⟩, hn⟩, nd⟩, hc⟩ := hb
  obtain ⟨g, gd, gm⟩ := bltB_ok h hx
  obtain ⟨M, hr, _⟩ := h.lam hl
  have L := lamNB_ok hn
  rw [← h.sc] at L
  refine der_v (ex_sortK g gm boot_sorted' M rfl L (fun _ _ _ _ _ _ => lam_bind hpn _ _ _ _ _ _ _ _ _ _) (fun q hq => ?_) hr d fun s1 H f c => (hs s1 H f c).v) rfl fun _ => rfl
  rw [h.N]
  exact hc q hq
theorem cE_ok {ca : FA} {k : Nat} {Φ : Fs} : ∀ (n : Nat) (ce : CE) (fa : FT) (X : Cx) (Wx : WX), XOk ce fa ca k Φ Wx X → DerF X fa ca Φ Wx (cE ce n)
  | 0, _, _, _, _, _ => fun e t h => by unfold cE at h; cases h
  | n + 1, ce, fa, X, Wx, h => fun e t hc => by
    have ih : DerF X fa ca Φ Wx (cE ce n) := cE_ok n ce fa X Wx h
    unfold cE at hc
    split at hc
    · exact cName_ok h hc
    · exact cConst_ok hc
    · split at hc
      · rename_i h1 h2 h3
        cases hc
        rw [cBin_ok h1]
        exact der_v (ex_bin _ (ih _ _ h2).v (ih _ _ h3).v) rfl fun _ => rfl
      · cases hc
    · obtain ⟨s, h1, h2⟩ := Option.map_eq_some_iff.mp hc
      subst h2
      exact der_v (ex_neg (ih _ _ h1).v) rfl fun _ => rfl
    · obtain ⟨s, h1, h2⟩ := Option.map_eq_some_iff.mp hc
      subst h2
      exact der_not (ih _ _ h1)
    · rename_i op e0 es _
      obtain ⟨s, h1, h2⟩ := Option.map_eq_some_iff.mp hc
      subst h2
      have hp := cL_ok ih h1
      cases op with
      | And => exact der_bop false (by simp) hp
      | Or => exact der_bop true (by simp) hp
    · split at hc
      · rename_i h1 h2 h3
        cases hc
        rw [cCmp_ok h1]
        have d := ih _ _ h3
        exact ⟨ex_cmp h.un _ (ih _ _ h2).v d.v (plain_mark d.sy _), et_cmp h.un _ (ih _ _ h2).v d.v (plain_mark d.sy _), fun _ => rfl, rfl⟩
      · cases hc
    · split at hc
      · rename_i h1 h2 h3 h4 h5
        cases hc
        rw [cCmp_ok h1, cCmp_ok h2]
        have d := ih _ _ h5
        exact ⟨ex_chain h.un _ _ (ih _ _ h3).v (ih _ _ h4).v d.v d.sy, et_chain h.un _ _ (ih _ _ h3).v (ih _ _ h4).v d.v d.sy, fun _ => rfl, rfl⟩
      · cases hc
    · split at hc
      · rename_i h1 h2 h3
        cases hc
        exact der_ife (ih _ _ h1) (ih _ _ h2) (ih _ _ h3)
      · cases hc
    · obtain ⟨s, h1, h2⟩ := Option.map_eq_some_iff.mp hc
      subst h2
      exact der_v (ex_tup (cL_ok ih h1)) rfl fun _ => rfl
    · obtain ⟨s, h1, h2⟩ := Option.map_eq_some_iff.mp hc
      subst h2
      exact der_v (ex_lst (cL_ok ih h1)) rfl fun _ => rfl
    · exact cSub_ok ih hc
    · exact cCall_ok h ih hc
    · split at hc
      · rename_i hxy
        obtain ⟨rfl, rfl⟩ := hxy
        split at hc
        · rename_i hp
          split at hc
          · rename_i hb
            split at hc
            · rename_i h1 h2
              cases hc
              have hb' := hb
              unfold lamB at hb'
              simp only [Bool.and_eq_true, decide_eq_true_eq] at hb'
              exact sortK_ok h hp hb (ih _ _ h2) fun s1 H f c => cE_ok n _ _ _ _ (h.lamb hb'.1.1.1.1 hb'.1.2 s1 H f c) _ _ h1
            · cases hc
          · cases hc
        · cases hc
      · cases hc
    · split at hc
      · rename_i hy
        obtain ⟨rfl, hl⟩ := hy
        split at hc
        · rename_i h1 h2
          cases hc
          exact der_v (ex_index h.un (ih _ _ h1) (ih _ _ h2) hl) rfl fun _ => rfl
        · cases hc
      · cases hc
    · split at hc
      · rename_i hb
        split at hc
        · rename_i h1 h2 h3 h4
          split at hc
          · rename_i hx
            cases hc
            rw [Bool.and_eq_true, List.all_eq_true] at hx
            obtain ⟨hp, hx⟩ := hx
            refine der_v (ex_comp h.calm h.nd (cIt_ok h ih h1) (blkOk_by (by rw [h.N, h.sc]; exact hb)) (fun i hi => by have := hx i hi; simpa using this) hp
              (fun s H C cl fp => cTg_ok (h.blk s H _ C cl fp) h2 WF) (fun s H C cl fp => cIfs_ok (cE_ok n _ _ _ _ (h.blk s H _ C cl fp)) h3) (fun s H C cl fp => (cE_ok n _ _ _ _ (h.blk s H _ C cl fp) _ _ h4).v)) rfl fun _ => rfl
          · cases hc
        · cases hc
      · cases hc
    · split at hc
      · rename_i hb
        split at hc
        · rename_i h1 h2 h3 h4 h5 h6 h7
          split at hc
          · rename_i hx
            cases hc
            simp only [Bool.and_eq_true, List.all_eq_true, decide_eq_true_eq] at hx
            obtain ⟨⟨⟨hp, hp1⟩, hx⟩, hx1⟩ := hx
            refine der_v (ex_comp2 h.calm h.nd (cIt_ok h ih h1) (blkOk_by (by rw [h.N, h.sc]; exact hb)) hx (fun _ z => z) hx1 hp hp1
              (fun s H C cl fp => cTg_ok (h.blk s H _ C cl fp) h2 WF) (fun s H C cl fp => cIfs_ok (cE_ok n _ _ _ _ (h.blk s H _ C cl fp)) h3) (fun s H C cl fp => cIt_ok (h.blk s H _ C cl fp) (cE_ok n _ _ _ _ (h.blk s H _ C cl fp)) h4)
              (fun s H C cl fp => cTg_ok (h.blk s H _ C cl fp) h5 WF) (fun s H C cl fp => cIfs_ok (cE_ok n _ _ _ _ (h.blk s H _ C cl fp)) h6) (fun s H C cl fp => (cE_ok n _ _ _ _ (h.blk s H _ C cl fp) _ _ h7).v)) rfl fun _ => rfl
          · cases hc
        · cases hc
      · cases hc
    · cases hc
end Mp

set_option maxRecDepth 100000
set_option maxHeartbeats 4000000
/-! Mp19: the text's statements mean what the evaluator says. -/
namespace Mp
open PySem PySem.Spec PyProof.Rows L2

def isFn (sc : Scope) : Bool := match sc.kind with | .function => true | _ => false
theorem isFn_ok {sc : Scope} (h : isFn sc = true) : sc.kind = .function := by
  unfold isFn at h
  split at h
  · assumption
  · cases h
def isLoc (sc : Scope) (x : Str) : Bool := match sc.names.lookup x with | some .local => true | _ => false
theorem isLoc_ok {sc : Scope} {x : Str} (h : isLoc sc x = true) : sc.names.lookup x = some .local := by
  unfold isLoc at h
  split at h
  · assumption
  · cases h
/-- does the store of a comprehension come ahead of its names' ends -/
def swB (sc : Scope) (x : Str) (px : Pos) : Expr → Bool
  | .ListComp _ _ s pos => isLoc sc x && (px.line == pos.line) && !(s.names.any fun (n, k) => n == x && (k == .local || k == .cell))
  | _ => false
theorem sw_by {env : PySem.Env} {x : Str} {px : Pos} {e : Expr} {l : Nat} (hk : env.scope.kind = .function) (h : swB env.scope x px e = false) (hs : notComp e = true ∨ ∃ a b c d, e = .ListComp a b c d) : swapsWith e (some (.Name x px)) l env = pure false := by
  rcases hs with hs | ⟨a, b, c, d, rfl⟩
  · exact sw_no hs _ _ _
  · have hb : (env.blockKind == ScopeKind.function) = true := by unfold Env.blockKind; rw [hk]; rfl
    have ek : (env.kindOf x == some NameKind.local) = isLoc env.scope x := by
      unfold isLoc
      show (env.scope.names.lookup x == some NameKind.local) = _
      cases env.scope.names.lookup x with
      | none => rfl
      | some k => cases k <;> rfl
    show (pure (env.blockKind == ScopeKind.function && env.kindOf x == some NameKind.local && px.line == d.line && !(c.names.any fun (n, k) => n == x && (k == .local || k == .cell))) : Sem Bool) = pure false
    rw [hb, ek, Bool.true_and]
    exact congrArg pure h
/-- which way a, b = e, e' is stored -/
def parNames (sc : Scope) (ts : List Expr) : List Str := ts.filterMap fun
    | .Name id pos => if isLoc sc id && pos.line == (ts.head?.map (·.pos.line)).getD 0 then some id else none
    | _ => none
def parM (sc : Scope) (ts vs : List Expr) : Option (Option (List Str)) :=
  if isFn sc then
  (if !(ts.length == 2 || ts.length == 3) || vs.length != ts.length then some none
  else if vs.all plainE then
    (if (parNames sc ts).length != ts.length || (parNames sc ts).eraseDups.length != (parNames sc ts).length then some none
    else if vs.all (foldedForSure 8) then some none
    else if vs.all (constantsAlone 8) then none
    else some (some (parNames sc ts))) else none) else none
theorem parM_ok {env : PySem.Env} {ts vs : List Expr} {o : Option (List Str)} (h : parM env.scope ts vs = some o) (k : Nat) (p : Pos) (k2 : Nat) (p2 : Pos) : swappedStores [.Tuple ts k p] (.Tuple vs k2 p2) env = pure o := by
  unfold parM at h
  split at h
  · rename_i hf
    have hb : (env.blockKind != ScopeKind.function) = false := by unfold Env.blockKind; rw [isFn_ok hf]; rfl
    have hst : ∀ f : Expr → Bool, (∀ e, plainE e = true → f e = false) → vs.all plainE = true → ¬ (vs.any f = true) := fun f hf hp z => by
      obtain ⟨e, he, z⟩ := List.any_eq_true.mp z
      rw [hf e (List.all_eq_true.mp hp e he)] at z
      cases z
    unfold swappedStores
    simp only [hb, Bool.or_false]
    split at h
    · rename_i h1
      cases h
      rw [if_pos h1]
    · rename_i h1
      rw [if_neg h1]
      split at h
      · rename_i hp
        refine Eq.trans (if_neg (hst _ (fun e he => by cases e <;> first | rfl | cases he) hp)) ?_
        generalize hgen : List.filterMap _ ts = nm
        have hn : parNames env.scope ts = nm := by
          rw [← hgen]
          unfold parNames
          congr 1
          funext e
          cases e <;> first
            | rfl
            | (rename_i id pos
               have ek : (env.kindOf id == some NameKind.local) = isLoc env.scope id := by
                 unfold isLoc
                 show (env.scope.names.lookup id == some NameKind.local) = _
                 cases env.scope.names.lookup id with
                 | none => rfl
                 | some k => cases k <;> rfl
               simp only [ek])
        rw [hn] at h
        split at h
        · rename_i h2
          cases h
          rw [if_pos h2]
        · rename_i h2
          rw [if_neg h2]
          split at h
          · rename_i h3
            cases h
            rw [if_pos h3]
          · rename_i h3
            rw [if_neg h3]
            split at h
            · cases h
            · rename_i h4
              cases h
              rw [if_neg h4]
      · cases h
  · cases h

def isConst : Expr → Bool
  | .Constant .. => true
  | _ => false
def isStrC : Expr → Bool
  | .Constant (.str _) _ _ => true
  | _ => false
/-- the fuel of a loop -/
def fuel : Nat := 18446744073709551616
def cAsg (ce : CE) (f : Expr → Option Tm) (tg : Expr) (e : Expr) : Option Ts := match tg with
  | .Name x px => (match stB ce x, f e with
    | some i, some t => if isFn ce.sc && !(swB ce.sc x px e) then some (.set i x t) else none
    | _, _ => none)
  | .Tuple ts _ _ => (match e with
    | .Tuple vs _ _ => (match cNms ce ts, cL f vs, parM ce.sc ts vs with
      | some nt, some tv, some none => if nt.length ≤ 100 then some (.setP nt tv) else none
      | some [(i, x), (j, y)], some tv, some (some [x', y']) => if x' = x ∧ y' = y ∧ i ≠ j ∧ isLoc ce.sc x = true ∧ isLoc ce.sc y = true ∧ vs.length = 2 then some (.setP [(i, x), (j, y)] tv) else none
      | some [(i, x), (j, y), (l, z)], some tv, some (some [x', y', z']) => if x' = x ∧ y' = y ∧ z' = z ∧ i ≠ j ∧ i ≠ l ∧ j ≠ l ∧ isLoc ce.sc x = true ∧ isLoc ce.sc y = true ∧ isLoc ce.sc z = true ∧ vs.length = 3 then some (.setP [(i, x), (j, y), (l, z)] tv) else none
      | _, _, _ => none)
    | e => (match cNms ce ts, f e with
      | some nt, some t => some (.setT (.tp nt) t)
      | _, _ => none))
  | .Subscript (.Name x _) k _ => (match slB ce x, f k, f e with
    | some i, some tk, some te => some (.setIx i x tk te)
    | _, _, _ => none)
  | _ => none
/-- name = [..] on one line -/
def cAsgLc (ce : CE) (f : Expr → Option Tm) (tg : Expr) (e : Expr) : Option Ts := match tg with
  | .Name x px => (match stB ce x, f e with
    | some i, some t => if isFn ce.sc && swB ce.sc x px e then some (.set i x t) else none
    | _, _ => none)
  | _ => none
def cExpr (ce : CE) (f : Expr → Option Tm) (e : Expr) : Option Ts := match e with
  | .Call (.Attribute (.Name x p) a tpos) es [] cpos =>
    if a = ("append" : Str) then (match slB ce x, es with
      | some i, [e] => (match f e with
        | some t => if (tpos.endLine == cpos.line) = true then some (.app i x t) else none
        | _ => none)
      | _, _ => none) else (f (.Call (.Attribute (.Name x p) a tpos) es [] cpos)).map .expr
  | e => if isStrC e then some .pass else if notComp e then (f e).map .expr else none
def cRaise (ce : CE) (e : Expr) : Option Ts := match e with
  | .Call (.Name x _) [.Constant (.str _) _ _] [] _ => (match ce.g.lookup x with
    | some (.exc c) => if glB ce.sc x then some (.raise c) else none
    | _ => none)
  | _ => none
def frzs : List Nat → Tss → Tss
  | [], ts => ts
  | i :: r, ts => .frz i (frzs r ts)
def cB (fz : List (Nat × Nat)) (f : Stmt → Option Ts) : List Stmt → Option Tss
  | [] => some .nil
  | s :: r => match f s, cB fz f r with
    | some t, some ts => some (frzs ((fz.filter fun p => p.1 == s.pos.line).map (·.2)) (.cons t ts))
    | _, _ => none
def cS (ce : CE) (fz : List (Nat × Nat)) (nE : Nat) : Nat → Stmt → Option Ts
  | 0, _ => none
  | n + 1, s => match s with
    | .Assign [tg] e _ => (match cAsg ce (cE ce nE) tg e with
      | some t => some t
      | none => cAsgLc ce (cE ce nE) tg e)
    | .AugAssign (.Name x _) .Add e _ => (match stB ce x, cE ce nE e with
      | some i, some t => some (.aug i x false t)
      | _, _ => none)
    | .AugAssign (.Name x _) .Sub e _ => (match stB ce x, cE ce nE e with
      | some i, some t => some (.aug i x true t)
      | _, _ => none)
    | .Expr e _ => cExpr ce (cE ce nE) e
    | .Return (some e) _ => (cE ce nE e).map .ret
    | .Return none _ => some (.ret (.cst .none))
    | .If c a b _ => (match cE ce nE c, cB fz (cS ce fz nE n) a, cB fz (cS ce fz nE n) b with
      | some t, some ta, some tb => some (.ife t ta tb)
      | _, _, _ => none)
    | .For tg it b [] _ => (match cTg ce tg, cIt ce (cE ce nE) tg it, cB fz (cS ce fz nE n) b with
      | some g, some ti, some tb => if plainE it then some (.forS g ti tb) else none
      | _, _, _ => none)
    | .While c b [] _ => (match cE ce nE c, cB fz (cS ce fz nE n) b with
      | some t, some tb => some (.whl fuel t tb)
      | _, _ => none)
    | .Raise (some e) none _ => cRaise ce e
    | .Pass _ => some .pass
    | .Break _ => some .brk
    | .Continue _ => some .cont
    | _ => none

section
variable {ce : CE} {fa : FT} {ca : FA} {k : Nat} {Φ : Fs} {Wx : WX} {X : Cx}
theorem lc_or {ce : CE} {n : Nat} {e : Expr} {t : Tm} (h : cE ce n e = some t) : notComp e = true ∨ ∃ a b c d, e = .ListComp a b c d := by
  cases e <;> first
    | exact .inl rfl
    | exact .inr ⟨_, _, _, _, rfl⟩
    | (cases n <;> (unfold cE at h; cases h))
/-- a comprehension's parts -/
theorem cE_lc {n : Nat} {ce : CE} {X : Cx} {Wx : WX} (h : XOk ce fa ca k Φ Wx X) {elt : Expr} {gs : List Comprehension} {scope : Scope} {pos : Pos} {t : Tm} (hc : cE ce n (.ListComp elt gs scope pos) = some t) {i : Nat} {x : Str} {px spos : Pos} (hi : X.N[i]? = some x) (hsw : swB ce.sc x px (.ListComp elt gs scope pos) = true) (hf : isFn ce.sc = true) :
    PS X (.Assign [.Name x px] (.ListComp elt gs scope pos) spos) (rdS (cx X fa ca Wx) fun ρ => sOf ((ev Φ t).v ρ) fun r ρ1 => nxO (putR i r ρ1)) := by
  cases n with
  | zero => unfold cE at hc; cases hc
  | succ n =>
    unfold cE at hc
    split at hc
    all_goals try (rename_i e; cases e; done)
    all_goals try (cases hc; done)
    all_goals try (rename_i e; cases e)
    · split at hc
      · rename_i hb
        split at hc
        · rename_i h1 h2 h3 h4
          split at hc
          · rename_i hx
            cases hc
            rw [Bool.and_eq_true, List.all_eq_true] at hx
            obtain ⟨hp, hx⟩ := hx
            unfold swB at hsw
            simp only [Bool.and_eq_true, Bool.not_eq_true'] at hsw
            obtain ⟨⟨w1, w2⟩, w3⟩ := hsw
            have ih := cE_ok n ce _ X Wx h
            have hg := fun (s : Shared) (H : Hp) (C : Addr) (cl : List (Str × Addr)) (fp : List Addr) => (show PG (X.blk s H scope (compEnvC scope cl C X.env) fp) _ (gTg (cx X fa ca WF) _) from cTg_ok (h.blk s H scope C cl fp) h2 WF)
            have ht := fun (s : Shared) (H : Hp) (C : Addr) (cl : List (Str × Addr)) (fp : List Addr) => (show PTs (X.blk s H scope (compEnvC scope cl C X.env) fp) _ (rdT (cx X fa ca WF) _) from cIfs_ok (cE_ok n _ _ _ _ (h.blk s H scope C cl fp)) h3)
            have he := fun (s : Shared) (H : Hp) (C : Addr) (cl : List (Str × Addr)) (fp : List Addr) => (show PE (X.blk s H scope (compEnvC scope cl C X.env) fp) _ (rd (cx X fa ca WF) _) from (cE_ok n _ _ _ _ (h.blk s H scope C cl fp) _ _ h4).v)
            refine PS.mono (ps_setLc h.calm h.nd hi (by rw [h.sc]; exact isLoc_ok w1) (sw_true (by rw [h.sc]; exact isFn_ok hf) (by rw [h.sc]; exact isLoc_ok w1) w2 w3) (cIt_ok h ih h1) (blkOk_by (by rw [h.N, h.sc]; exact hb)) hg ht he (plain_fold hp _)) fun D σ H q => ?_
            exact comp_read (K := X.K) (C := cx X fa ca Wx) (CF := cx X fa ca WF) ⟨rfl, rfl, rfl, rfl⟩ (fun i hi => by have := hx i hi; simpa using this) σ H _ (set_read q)
          · cases hc
        · cases hc
      · cases hc
    · split at hc
      · rename_i hb
        split at hc
        · rename_i h1 h2 h3 h4 h5 h6 h7
          split at hc
          · rename_i hx
            cases hc
            simp only [Bool.and_eq_true, List.all_eq_true, decide_eq_true_eq] at hx
            obtain ⟨⟨⟨hp, hp1⟩, hx⟩, hx1⟩ := hx
            unfold swB at hsw
            simp only [Bool.and_eq_true, Bool.not_eq_true'] at hsw
            obtain ⟨⟨w1, w2⟩, w3⟩ := hsw
            have ih := cE_ok n ce _ X Wx h
            have ihB := fun (s : Shared) (H : Hp) (C : Addr) (cl : List (Str × Addr)) (fp : List Addr) => cE_ok n _ _ _ _ (h.blk s H scope C cl fp)
            have hg := fun (s : Shared) (H : Hp) (C : Addr) (cl : List (Str × Addr)) (fp : List Addr) => (show PG (X.blk s H scope (compEnvC scope cl C X.env) fp) _ (gTg (cx X fa ca WF) _) from cTg_ok (h.blk s H scope C cl fp) h2 WF)
            have ht := fun (s : Shared) (H : Hp) (C : Addr) (cl : List (Str × Addr)) (fp : List Addr) => (show PTs (X.blk s H scope (compEnvC scope cl C X.env) fp) _ (rdT (cx X fa ca WF) _) from cIfs_ok (ihB s H C cl fp) h3)
            have hi1 := fun (s : Shared) (H : Hp) (C : Addr) (cl : List (Str × Addr)) (fp : List Addr) => (show PI (X.blk s H scope (compEnvC scope cl C X.env) fp) _ _ (rdI (cx X fa ca WF) _) from cIt_ok (h.blk s H scope C cl fp) (ihB s H C cl fp) h4)
            have hg1 := fun (s : Shared) (H : Hp) (C : Addr) (cl : List (Str × Addr)) (fp : List Addr) => (show PG (X.blk s H scope (compEnvC scope cl C X.env) fp) _ (gTg (cx X fa ca WF) _) from cTg_ok (h.blk s H scope C cl fp) h5 WF)
            have ht1 := fun (s : Shared) (H : Hp) (C : Addr) (cl : List (Str × Addr)) (fp : List Addr) => (show PTs (X.blk s H scope (compEnvC scope cl C X.env) fp) _ (rdT (cx X fa ca WF) _) from cIfs_ok (ihB s H C cl fp) h6)
            have he := fun (s : Shared) (H : Hp) (C : Addr) (cl : List (Str × Addr)) (fp : List Addr) => (show PE (X.blk s H scope (compEnvC scope cl C X.env) fp) _ (rd (cx X fa ca WF) _) from (ihB s H C cl fp _ _ h7).v)
            refine PS.mono (ps_setLc2 h.calm h.nd hi (by rw [h.sc]; exact isLoc_ok w1) (sw_true (by rw [h.sc]; exact isFn_ok hf) (by rw [h.sc]; exact isLoc_ok w1) w2 w3) (cIt_ok h ih h1) (blkOk_by (by rw [h.N, h.sc]; exact hb)) hx1 hg ht hi1 hg1 ht1 he (plain_fold hp _) (fun env => plain_fold hp1 env)) fun D σ H q => ?_
            exact comp_read2 (C := cx X fa ca Wx) (CF := cx X fa ca WF) ⟨rfl, rfl, rfl⟩ hx (fun _ z => z) hx1 σ H _ (set_read q)
          · cases hc
        · cases hc
      · cases hc
end
end Mp

set_option maxRecDepth 100000
set_option maxHeartbeats 4000000
/-! Mp20: statements, blocks. -/
namespace Mp
open PySem PySem.Spec PyProof.Rows L2

section
variable {ce : CE} {fa : FT} {ca : FA} {k : Nat} {Φ : Fs} {Wx : WX} {X : Cx}
theorem paired_len {α β : Type} {R : α → β → Prop} {xs : List α} {ys : List β} (h : Paired R xs ys) : xs.length = ys.length := by
  induction h with
  | nil => rfl
  | cons _ _ ih => simp [ih]
theorem cNms_names {ce : CE} : ∀ {es : List Expr} {ts : List (Nat × Str)}, cNms ce es = some ts → es = (ts.zip (es.map Expr.pos)).map (fun y => Expr.Name y.1.2 y.2) ∧ es.length = ts.length
  | [], _, e => by cases e; exact ⟨rfl, rfl⟩
  | e0 :: es, ts, e => by
    cases e0 <;> first
      | (unfold cNms at e
         split at e
         · rename_i h1 h2
           cases e
           obtain ⟨h3, h4⟩ := cNms_names h2
           exact ⟨congrArg (List.cons _) h3, congrArg Nat.succ h4⟩
         · cases e)
      | (unfold cNms at e; cases e)
theorem cAsg_ok {n : Nat} (h : XOk ce fa ca k Φ Wx X) {tg e : Expr} {t : Ts} {pos : Pos} (hc : cAsg ce (cE ce n) tg e = some t) : PS X (.Assign [tg] e pos) (rdS (cx X fa ca Wx) (sv Φ t)) := by
  have ih := cE_ok n ce _ X Wx h
  unfold cAsg at hc
  split at hc
  · split at hc
    · rename_i h1 h2
      split at hc
      · rename_i hw
        cases hc
        rw [Bool.and_eq_true, Bool.not_eq_true'] at hw
        exact st_set h.nd (stB_ok h h1) (ih _ _ h2).v (sw_by (by rw [h.sc]; exact isFn_ok hw.1) (by rw [h.sc]; exact hw.2) (lc_or h2))
      · cases hc
    · cases hc
  · split at hc
    · rename_i tsE _ _ _ vs _ _
      split at hc
      · rename_i h1 h2 h3
        split at hc
        · rename_i hz
          cases hc
          exact st_parT h.calm h.nd (cNms_ok h h1) (cL_ok ih h2) hz (parM_ok (by rw [h.sc]; exact h3) _ _ _ _)
        · cases hc
      · rename_i i x j y tv x' y' h1 h2 h3
        split at hc
        · rename_i hz
          cases hc
          obtain ⟨rfl, rfl, hij, hx, hy, hl⟩ := hz
          obtain ⟨e1, e2⟩ := cNms_names h1
          match tsE, e2 with
          | [q1, q2], _ =>
            have e1 : [q1, q2] = [Expr.Name x' q1.pos, Expr.Name y' q2.pos] := e1
            rw [e1] at h1 h3 ⊢
            match vs, hl with
            | [a, b], _ =>
              have hn := cNms_ok h h1
              cases hn with
              | cons n1 hn =>
                cases hn with
                | cons n2 hn =>
                  exact st_par2 h.calm h.nd n1 n2 hij (by rw [h.sc]; exact isLoc_ok hx) (by rw [h.sc]; exact isLoc_ok hy) (cL_ok ih h2) (parM_ok (by rw [h.sc]; exact h3))
        · cases hc
      · rename_i i x j y l z tv x' y' z' h1 h2 h3
        split at hc
        · rename_i hq
          cases hc
          obtain ⟨rfl, rfl, rfl, hij, hil, hjl, hx, hy, hz, hl⟩ := hq
          obtain ⟨e1, e2⟩ := cNms_names h1
          match tsE, e2 with
          | [q1, q2, q3], _ =>
            have e1 : [q1, q2, q3] = [Expr.Name x' q1.pos, Expr.Name y' q2.pos, Expr.Name z' q3.pos] := e1
            rw [e1] at h1 h3 ⊢
            match vs, hl with
            | [a, b, c], _ =>
              have hn := cNms_ok h h1
              cases hn with
              | cons n1 hn =>
                cases hn with
                | cons n2 hn =>
                  cases hn with
                  | cons n3 hn =>
                    exact st_par3 h.calm h.nd n1 n2 n3 hij hil hjl (by rw [h.sc]; exact isLoc_ok hx) (by rw [h.sc]; exact isLoc_ok hy) (by rw [h.sc]; exact isLoc_ok hz) (cL_ok ih h2) (parM_ok (by rw [h.sc]; exact h3))
        · cases hc
      · cases hc
    · rename_i hnt
      split at hc
      · rename_i h1 h2
        cases hc
        refine st_setT h.calm h.nd (cNms_ok h h1) (ih _ _ h2).v ?_
        cases e <;> first | rfl | exact absurd rfl (hnt _ _ _)
      · cases hc
  · split at hc
    · rename_i h1 h2 h3
      cases hc
      obtain ⟨a1, a2, a3, a4⟩ := slB_ok h h1
      exact st_setIx (pe_var a1 a2 a3 a4) (ih _ _ h2).v (ih _ _ h3).v (ih _ _ h2).sy
    · cases hc
  · cases hc
theorem cAsgLc_ok {n : Nat} (h : XOk ce fa ca k Φ Wx X) {tg e : Expr} {t : Ts} {pos : Pos} (hc : cAsgLc ce (cE ce n) tg e = some t) : PS X (.Assign [tg] e pos) (rdS (cx X fa ca Wx) (sv Φ t)) := by
  unfold cAsgLc at hc
  split at hc
  · split at hc
    · rename_i h1 h2
      split at hc
      · rename_i hw
        cases hc
        rw [Bool.and_eq_true] at hw
        rcases lc_or h2 with hn | ⟨a, b, c, d, rfl⟩
        · exfalso
          have := hw.2
          cases e <;> first | (unfold swB at this; cases this) | cases hn
        · exact cE_lc h h2 (stB_ok h h1).hi hw.2 hw.1
      · cases hc
    · cases hc
  · cases hc
theorem cExpr_ok {n : Nat} (h : XOk ce fa ca k Φ Wx X) {e : Expr} {t : Ts} {pos : Pos} (hc : cExpr ce (cE ce n) e = some t) : PS X (.Expr e pos) (rdS (cx X fa ca Wx) (sv Φ t)) := by
  have ih := cE_ok n ce _ X Wx h
  have ex : ∀ {e : Expr}, notComp e = true → (cE ce n e).map Ts.expr = some t → PS X (.Expr e pos) (rdS (cx X fa ca Wx) (sv Φ t)) := fun {e} hn hc => by
    obtain ⟨s, h1, h2⟩ := Option.map_eq_some_iff.mp hc
    subst h2
    exact st_expr (ih _ _ h1).v hn
  unfold cExpr at hc
  split at hc
  · split at hc
    · rename_i ha
      subst ha
      split at hc
      · rename_i h1
        split at hc
        · rename_i h2
          split at hc
          · rename_i hl
            cases hc
            obtain ⟨a1, a2, a3, a4⟩ := slB_ok h h1
            exact st_app (pe_var a1 a2 a3 a4) (ih _ _ h2) hl
          · cases hc
        · cases hc
      · cases hc
    · exact ex rfl hc
  · split at hc
    · rename_i hs
      cases hc
      unfold isStrC at hs
      split at hs
      · exact PS.mono ps_doc fun D σ H ⟨W, ρ, rs, q⟩ => q _ _ _ (Fx.refl rs)
      · cases hs
    · split at hc
      · rename_i hn
        exact ex hn hc
      · cases hc
theorem cRaise_ok (h : XOk ce fa ca k Φ Wx X) {e : Expr} {t : Ts} {pos : Pos} (hc : cRaise ce e = some t) : PS X (.Raise (some e) none pos) (rdS (cx X fa ca Wx) (sv Φ t)) := by
  unfold cRaise at hc
  split at hc
  · split at hc
    · rename_i el
      split at hc
      · rename_i hg
        cases hc
        obtain ⟨g1, g2⟩ := glB_ok h hg
        have he := h.exc _ _ el
        obtain ⟨bmB, B, newId, initId, F, q⟩ := he.F
        exact st_raise h.calm h.tk F q he.mg he.kp he.r g1 g2
      · cases hc
    · cases hc
  · cases hc
theorem frzs_ok {ss : List Stmt} : ∀ (is : List Nat) {ts : Tss}, PSs X ss (rdS (cx X fa ca Wx) (svs Φ ts)) → PSs X ss (rdS (cx X fa ca Wx) (svs Φ (frzs is ts)))
  | [], _, h => h
  | i :: is, _, h => ss_frz (frzs_ok is h)
theorem cB_ok {fz : List (Nat × Nat)} {f : Stmt → Option Ts} (ih : ∀ s t, f s = some t → PS X s (rdS (cx X fa ca Wx) (sv Φ t))) : ∀ {ss : List Stmt} {ts : Tss}, cB fz f ss = some ts → PSs X ss (rdS (cx X fa ca Wx) (svs Φ ts))
  | [], _, e => by cases e; exact ss_nil
  | s :: r, ts, e => by
    unfold cB at e
    split at e
    · rename_i t ts' h1 h2
      have hc : PSs X (s :: r) (rdS (cx X fa ca Wx) (svs Φ (.cons t ts'))) := ss_cons (ih _ _ h1) (cB_ok ih h2)
      cases e
      exact frzs_ok _ hc
    · cases e
end
theorem cS_ok {ce : CE} {fa : FT} {ca : FA} {k : Nat} {Φ : Fs} {Wx : WX} {X : Cx} {fz : List (Nat × Nat)} {nE : Nat} (h : XOk ce fa ca k Φ Wx X) (hp : PassesOwn (model X.prog X.w) X.A X.env X.xe) : ∀ (n : Nat) (s : Stmt) (t : Ts), cS ce fz nE n s = some t → PS X s (rdS (cx X fa ca Wx) (sv Φ t))
  | 0, _, _, e => by unfold cS at e; cases e
  | n + 1, s, t, e => by
    have ihE := cE_ok nE ce _ X Wx h
    have ihS := cS_ok (fz := fz) (nE := nE) h hp n
    unfold cS at e
    split at e
    · split at e
      · rename_i h1
        cases e
        exact cAsg_ok h h1
      · exact cAsgLc_ok h e
    · split at e
      · rename_i h1 h2
        cases e
        exact st_aug h.nd (stB_ok h h1) false (ihE _ _ h2).v
      · cases e
    · split at e
      · rename_i h1 h2
        cases e
        exact st_aug h.nd (stB_ok h h1) true (ihE _ _ h2).v
      · cases e
    · exact cExpr_ok h e
    · obtain ⟨s, h1, h2⟩ := Option.map_eq_some_iff.mp e
      subst h2
      exact st_ret (ihE _ _ h1).v
    · cases e
      exact st_retN
    · split at e
      · rename_i h1 h2 h3
        cases e
        exact st_ife (ihE _ _ h1).t (cB_ok ihS h2) (cB_ok ihS h3)
      · cases e
    · split at e
      · rename_i h1 h2 h3
        split at e
        · rename_i hpl
          cases e
          exact st_for hp h.calm (cIt_ok h ihE h2) (cTg_ok h h1 Wx) (cB_ok ihS h3) hpl
        · cases e
      · cases e
    · split at e
      · rename_i h1 h2
        cases e
        exact st_whl hp (ihE _ _ h1).t (cB_ok ihS h2)
      · cases e
    · exact cRaise_ok h e
    · cases e
      exact PS.mono ps_pass fun D σ H ⟨W, ρ, rs, q⟩ => q _ _ _ (Fx.refl rs)
    · cases e
      exact PS.mono ps_break fun D σ H ⟨W, ρ, rs, q⟩ => q _ _ _ (Fx.refl rs)
    · cases e
      exact PS.mono ps_continue fun D σ H ⟨W, ρ, rs, q⟩ => q _ _ _ (Fx.refl rs)
    · cases e
end Mp

set_option maxRecDepth 100000
set_option maxHeartbeats 4000000
/-! Mp21: defs. -/
namespace Mp
open PySem PySem.Spec PyProof.Rows L2

/-- a def of the text, as it is to be read -/
structure Df where
  x : Str
  params : Arguments
  body : List Stmt
  sc : Scope
  ps : List Str
  N : List Str
  fz : List (Nat × Nat)
  /-- it makes lambdas -/
  lam : Bool
def Df.ce (d : Df) (g g0 : List (Str × GV)) (b : List Str) : CE := ⟨d.N, d.sc, fun _ => true, g, b, d.lam, g0⟩
/-- the name of its lambdas -/
def Df.lq (d : Df) : Str := (d.x ++ ".<locals>.") ++ "<lambda>"
/-- the text's defs are the table -/
def dfOk (g g0 : List (Str × GV)) (b : List Str) (d : Df) (t : Fd) : Prop :=
  cB d.fz (cS (d.ce g g0 b) d.fz 40 20) d.body = some t.body ∧ t.np = d.ps.length ∧ t.ns = d.N.length ∧ FnScope d.N d.ps d.sc
def DfsOk (g g0 : List (Str × GV)) (b : List Str) (ds : List (Nat × Df)) (T : Nat → Option Fd) : Prop := ∀ p ∈ ds, ∃ t, T p.1 = some t ∧ dfOk g g0 b p.2 t

/-- what the module's heap tells -/
structure ModOk (K : PySem.W.Frag) (mg : Str → Option Value) (base : Heap) (fa : FT) (ca : FA) (g : List (Str × GV)) (b : List Str) (ds : List (Nat × Df)) : Prop where
  fns : ∀ x i, g.lookup x = some (.fn i) → mg x = some (.ref (fa i)) ∧ ∃ d, (i, d) ∈ ds ∧ d.x = x
  fun_ : ∀ i d, (i, d) ∈ ds → ∃ fd, FunD K d.x d.x d.params d.body d.sc [] [] (fa i) fd ∧ Binds K fd d.ps []
  cst : ∀ x c, g.lookup x = some (.cst c) → ∃ u v, mg x = some u ∧ RelV v u ∧ ∀ W H, Rp K W H c v
  exc : ∀ x c, g.lookup x = some (.exc c) → (∃ bmB B newId initId, ExcBaseFacts B newId initId bmB ∧ PySem.W.excIn K (ca c) bmB newId = true) ∧ mg x = some (.ref (ca c)) ∧ PySem.W.keepIn K (.ref (ca c)) = true ∧
    PySem.W.subIn K (.ref (ca c)) (.type "BaseException") = some true ∧ PySem.W.typeIn K (.ref (ca c)) = some (.type "type")
  blt : ∀ x ∈ b, mg x = none
  lam : ∀ i d, (i, d) ∈ ds → d.lam = true → ∀ (o : Obj) (fd : FuncData) (c : Addr), K.lookup (fa i) = some o → o.data = .func fd → fd.code = .ref c → ∃ P, LamX.TabB base mg c P ∧ (P, d.lq) ∈ fa.t ∧ ∀ p ∈ fa.t, p.1 = P → p.2 = d.lq
/-- what lambdas may call: at every depth -/
structure PureOk (P : Program) (w : World) (K : PySem.W.Frag) (mg : Str → Option Value) (base : Heap) (fa : FT) (ca : FA) (g0 : List (Str × GV)) (T : Nat → Option Fd) : Prop where
  fns : ∀ k x i, g0.lookup x = some (.fn i) → mg x = some (.ref (fa i)) ∧ PySem.W.keepIn K (.ref (fa i)) = true ∧ ∃ fd ps, FnOk P w K mg base (L2.CX P w) (2 * k) (fa i) fd ps (spF K ⟨fa.f, []⟩ ca (runs T k) i) ∧ Binds K fd ps []
  cst : ∀ x c, g0.lookup x = some (.cst c) → ∃ u v, mg x = some u ∧ RelV v u ∧ ∀ W H, Rp K W H c v
  exc : ∀ x c, g0.lookup x ≠ some (.exc c)

/-! ### the arguments at the start -/
section
variable {K : PySem.W.Frag} {fa : FT} {ca : FA} {W : Wd} {H : Hp}
theorem ArR.len {as : List Arg} {vs : List V} (h : ArR K fa W H as vs) : as.length = vs.length := by
  induction h with
  | nil => rfl
  | sh _ _ ih => simp [ih]
  | ln _ _ _ ih => simp [ih]
theorem ArR.get {as : List Arg} {vs : List V} (h : ArR K fa W H as vs) : ∀ {i : Nat} {a : Arg}, as[i]? = some a → ∃ v, vs[i]? = some v ∧ match a with
    | .sh x => RpD K fa W H x v
    | .ln x => ∃ p, v = .ref p ∧ RpO K W H x p ∧ W p := by
  induction h with
  | nil => intro i a e; simp at e
  | sh r _ ih =>
    intro i a e
    cases i with
    | zero => simp at e; subst e; exact ⟨_, rfl, r⟩
    | succ i =>
      obtain ⟨v, e1, e2⟩ := ih (i := i) (a := a) (by simpa using e)
      exact ⟨v, by simpa using e1, e2⟩
  | ln r w _ ih =>
    intro i a e
    cases i with
    | zero => simp at e; subst e; exact ⟨_, rfl, _, rfl, r, w⟩
    | succ i =>
      obtain ⟨v, e1, e2⟩ := ih (i := i) (a := a) (by simpa using e)
      exact ⟨v, by simpa using e1, e2⟩
theorem start_get {n : Nat} {as : List Arg} {i : Nat} {s : Sl} (e : (Mp.start n as)[i]? = some s) (h : s ≠ .un) : ∃ a, as[i]? = some a ∧ s = slOf a := by
  unfold Mp.start at e
  by_cases hi : i < as.length
  · rw [List.getElem?_append_left (by simpa using hi), List.getElem?_map] at e
    obtain ⟨a, e1, e2⟩ := Option.map_eq_some_iff.mp e
    exact ⟨a, e1, e2.symm⟩
  · rw [List.getElem?_append_right (by simpa using Nat.le_of_not_lt hi), List.getElem?_replicate] at e
    split at e
    · cases e; exact absurd rfl h
    · cases e
theorem start_rs {N : List Str} {as : List Arg} {vs : List V} (dom : Dom W H) (tab : LamX.Tabs fa.t H) (h : ArR K fa W H as vs) (inj : LentI as vs) (hl : as.length ≤ N.length) : RS K fa W (Mp.start N.length as) (L2.start N vs) H := by
  have hlen := h.len
  have sg : ∀ i, i < vs.length → (L2.start N vs)[i]? = (vs[i]?).map some := fun i hi => by
    unfold L2.start
    rw [List.getElem?_append_left (by simpa using hi), List.getElem?_map]
  have gs : ∀ {i : Nat} {v : V}, vs[i]? = some v → (L2.start N vs)[i]? = some (some v) := fun {i v} e => by
    rw [sg i (List.getElem?_eq_some_iff.mp e).1, e]; rfl
  refine ⟨?_, fun i x e => ?_, fun i l x e => ?_, fun i j l l' x x' a e1 e2 e3 e4 => ?_, dom, tab⟩
  · unfold Mp.start L2.start
    simp only [List.length_append, List.length_map, List.length_replicate]
    omega
  · obtain ⟨a, e1, e2⟩ := start_get e (by simp)
    cases a with
    | sh y => cases e2; obtain ⟨v, h1, h2⟩ := h.get e1; exact ⟨v, gs h1, h2⟩
    | ln y => cases e2
  · obtain ⟨a, e1, e2⟩ := start_get e (by simp)
    cases a with
    | sh y => cases e2
    | ln y =>
      cases e2
      obtain ⟨v, h1, p, rfl, r, w⟩ := h.get e1
      exact ⟨p, gs h1, w, r⟩
  · obtain ⟨a1, f1, g1⟩ := start_get e1 (by simp)
    obtain ⟨a2, f2, g2⟩ := start_get e2 (by simp)
    cases a1 <;> cases g1
    cases a2 <;> cases g2
    obtain ⟨v1, h1, p1, rfl, _, _⟩ := h.get f1
    obtain ⟨v2, h2, p2, rfl, _, _⟩ := h.get f2
    rw [gs h1] at e3
    rw [gs h2] at e4
    cases e3
    cases e4
    exact inj i j _ _ a f1 f2 h1 h2
/-- at the end: what was lent is given back -/
theorem bk_fin {W' : Wd} {ρ' : Env} {σ' : L2.St} {H' : Hp} (rs' : RS K fa W' ρ' σ' H') : ∀ {as : List Arg} {vs : List V} {n : Nat} {bk : List (Option D)}, ArR K fa W H as vs → bkOf ρ' as n = some bk →
    (∀ (i : Nat) (x : D), as[i]? = some (Arg.ln x) → ∃ x', ρ'[n + i]? = some (Sl.own true x')  ∧ ∃ v, vs[i]? = some v ∧ σ'[n + i]? = some (some v)) → BkR K W' H' as vs bk
  | _, _, _, _, .nil, e, _ => by cases e; exact .nil
  | _, _, n, _, .sh r t, e, f => by
    simp only [bkOf, Option.map_eq_some_iff] at e
    obtain ⟨bk, e1, e2⟩ := e
    subst e2
    exact .sh (bk_fin rs' t e1 fun i x hx => by
      obtain ⟨x', h1, v, h2, h3⟩ := f (i + 1) x (by simpa using hx)
      exact ⟨x', by rw [show n + 1 + i = n + (i + 1) by omega]; exact h1, v, by simpa using h2, by rw [show n + 1 + i = n + (i + 1) by omega]; exact h3⟩)
  | _, _, n, _, .ln (x := x) r w t, e, f => by
    unfold bkOf at e
    split at e
    · rename_i y hy
      obtain ⟨bk, e1, e2⟩ := Option.map_eq_some_iff.mp e
      subst e2
      obtain ⟨x', h1, v, h2, h3⟩ := f 0 x rfl
      cases h2
      obtain ⟨a, g1, g2, g3⟩ := rs'.own n true y hy
      have h3 : σ'[n]? = some (some (V.ref _)) := h3
      rw [g1] at h3
      cases h3
      exact .ln g3 g2 (bk_fin rs' t e1 fun i x hx => by
        obtain ⟨x', h1, v, h2, h3⟩ := f (i + 1) x (by simpa using hx)
        exact ⟨x', by rw [show n + 1 + i = n + (i + 1) by omega]; exact h1, v, by simpa using h2, by rw [show n + 1 + i = n + (i + 1) by omega]; exact h3⟩)
    · cases e
theorem fxF_of {N : List Str} {as : List Arg} {vs : List V} {bk : List (Option D)} {W' : Wd} {ρ' : Env} {σ' : L2.St} {H' : Hp} (dom : Dom W H) (tab : LamX.Tabs fa.t H) (h : ArR K fa W H as vs) (inj : LentI as vs) (hl : as.length ≤ N.length)
    (f : Fx K fa W (Mp.start N.length as) (L2.start N vs) H W' ρ' σ' H') (e : bkOf ρ' as 0 = some bk) : FxF K fa W H as vs bk W' H' := by
  have rs := start_rs (N := N) dom tab h inj hl
  have gs : ∀ {i : Nat} {v : V}, vs[i]? = some v → (L2.start N vs)[i]? = some (some v) := fun {i v} e => by
    unfold L2.start
    rw [List.getElem?_append_left (by simpa using (List.getElem?_eq_some_iff.mp e).1), List.getElem?_map, e]
    rfl
  have as_get : ∀ {i : Nat} {a : Arg}, as[i]? = some a → (Mp.start N.length as)[i]? = some (slOf a) := fun {i a} e => by
    unfold Mp.start
    rw [List.getElem?_append_left (by simpa using (List.getElem?_eq_some_iff.mp e).1), List.getElem?_map, e]
    rfl
  have lnt : ∀ {i : Nat} {x : D}, as[i]? = some (Arg.ln x) → ∃ x', ρ'[i]? = some (Sl.own true x') ∧ ∃ p, vs[i]? = some (V.ref p) ∧ σ'[i]? = some (some (V.ref p)) := fun {i x} e => by
    obtain ⟨x', e1, e2⟩ := f.ln i x (as_get e)
    obtain ⟨v, h1, p, rfl, _, _⟩ := h.get e
    exact ⟨x', e1, p, h1, by rw [e2]; exact gs h1⟩
  have ow : ∀ a, Ow (Mp.start N.length as) (L2.start N vs) a → LentA as vs a := fun a ⟨i, l, x, e1, e2⟩ => by
    obtain ⟨b, f1, f2⟩ := start_get e1 (by simp)
    cases b <;> cases f2
    obtain ⟨v, h1, p, rfl, _, _⟩ := h.get f1
    rw [gs h1] at e2
    cases e2
    exact ⟨i, _, f1, h1⟩
  refine ⟨bk_fin f.rs h e fun i x hx => ?_, fun a o ea n nt => f.fr a o ea (fun z => n (ow a z)) nt, fun a w => ?_, f.wg, f.dm, f.rs.dom, f.rs.tab⟩
  · obtain ⟨x', e1, p, e2, e3⟩ := lnt hx
    refine ⟨x', by rw [Nat.zero_add]; exact e1, _, e2, by rw [Nat.zero_add]; exact e3⟩
  · rcases f.wk a w with z | z
    · exact z
    · obtain ⟨i, x, e1, e2⟩ := ow a z
      obtain ⟨x', e3, p, e4, e5⟩ := lnt e1
      rw [e2] at e4
      cases e4
      exact f.rs.owW ⟨i, true, x', e3, e5⟩
end

/-! ### every def keeps its promise -/
theorem un_of {k : Nat} {X : Cx} (h : Room k X.A) : Un X := by have := h.un; show X.A.units + 70 < cLine; omega
theorem fn_all {P : Program} {w : World} {K : PySem.W.Frag} {mg : Str → Option Value} {base : Heap} {fa : FT} {ca : FA} {g g0 : List (Str × GV)} {b : List Str} {ds : List (Nat × Df)} {T : Nat → Option Fd} (M : ModOk K mg base fa ca g b ds) (hT : DfsOk g g0 b ds T) (PU : PureOk P w K mg base fa ca g0 T) :
    ∀ (k i : Nat) (d : Df) (fd : FuncData), (i, d) ∈ ds → FunD K d.x d.x d.params d.body d.sc [] [] (fa i) fd → FnOk P w K mg base (L2.CX P w) (2 * k) (fa i) fd d.ps (spF K fa ca (runs T k) i)
  | 0, i, d, fd, _, _ => ⟨fun vs H Q E ⟨W, as, _, _, _, _, h⟩ => h.elim, fun A outer s H args us vs Q E _ _ _ _ ⟨W, as, _, _, _, _, h⟩ => h.elim⟩
  | k + 1, i, d, fd, hd, F => by
    obtain ⟨t, ht, hb, hnp, hns, S⟩ := hT _ hd
    have ht : T i = some t := ht
    have S : FnScope d.N d.ps d.sc := S
    have key : ∀ {vs : List V} {H : Hp} {Q : VK} {E : XK}, spF K fa ca (runs T (k + 1)) i vs H Q E → ∃ W as, Dom W H ∧ LamX.Tabs fa.t H ∧ ArR K fa W H as vs ∧ LentI as vs ∧ as.length = d.ps.length ∧ OcF K fa ca W H as vs Q E (fin as (svs (runs T k) t.body (Mp.start d.N.length as))) := fun {vs H Q E} ⟨W, as, h1, ht1, h2, h3, h4⟩ => by
      have h4 : OcF K fa ca W H as vs Q E (run1 T (runs T k) i as) := h4
      unfold run1 at h4
      rw [ht] at h4
      simp only at h4
      split at h4
      · rename_i hl
        exact ⟨W, as, h1, ht1, h2, h3, hl.trans hnp, by rw [← hns]; exact h4⟩
      · exact h4.elim
    obtain ⟨oc, od, dV, kV, doc, pm, an, cdv, ct, osl, rfl, lk, hcd, _, _⟩ := F.ex
    show FnOk P w K mg base (L2.CX P w) (2 * k + 1 + 1) _ _ _ _
    refine fn_of lk hcd S (fun vs H Q E h => ?_) fun A outer s H vs Q E hr1 h => ?_
    · obtain ⟨W, as, _, _, h2, _, hl, _⟩ := key h
      rw [← hl, h2.len]
    · obtain ⟨W, as, dom, tab, har, inj, hl, oc⟩ := key h
      have hr := hr1.mono (Nat.le_succ (2 * k))
      have hx : XOk (d.ce g g0 b) fa ca (2 * k) (runs T k) (fun c dd _ H => E c dd H) (cxOf (L2.CX P w) P w K mg base d.N d.x d.sc (fa i) cdv A outer s H E) := {
        N := rfl
        sc := rfl
        fn := fun x hx => hx
        nd := S.nd
        calm := rfl
        un := un_of hr
        room := hr
        tk := takes_of rfl rfl rfl rfl
        fns := fun x j e => by
          obtain ⟨e1, d', e2, e3⟩ := M.fns x j e
          obtain ⟨fd', F', B'⟩ := M.fun_ j d' e2
          exact ⟨e1, F'.kp, fd', d'.ps, fn_all M hT PU k j d' fd' e2 F', B'⟩
        cst := M.cst
        exc := fun x c e => by
          obtain ⟨e1, e2, e3, e4, e5⟩ := M.exc x c e
          exact ⟨e1, e2, e3, raises_own e4 e5⟩
        blt := M.blt
        lam := fun hl => by
          obtain ⟨c, hc⟩ := He.codeIn_ref hcd
          obtain ⟨Pt, h1, h2, h3⟩ := M.lam i d hd hl _ _ c lk rfl hc
          exact ⟨⟨c, Pt, h1, hc, h2, h3⟩, hr1, fun x j e => by
            obtain ⟨e1, e2, e3⟩ := PU.fns k x j e
            exact ⟨e1, e2, e3⟩, PU.cst, PU.exc⟩ }
      refine ⟨_, cB_ok (fun s t e => cS_ok hx (passes_of rfl) 20 s t e) hb, ?_⟩
      have hN : as.length ≤ d.N.length := by
        rw [hl]
        have := congrArg List.length S.pre
        rw [List.length_take] at this
        omega
      have rs := start_rs (N := d.N) dom tab har inj hN
      refine ⟨W, Mp.start d.N.length as, rs, ?_⟩
      cases ev : svs (runs T k) t.body (Mp.start d.N.length as) with
      | bk ρ' => rw [ev] at oc; exact oc.elim
      | ct ρ' => rw [ev] at oc; exact oc.elim
      | bad => rw [ev] at oc; exact oc.elim
      | nx ρ' =>
        rw [ev] at oc
        intro W' σ' H' f
        cases eb : bkOf ρ' as 0 with
        | none => dsimp only [fin] at oc; rw [eb] at oc; exact oc.elim
        | some bk =>
          dsimp only [fin] at oc
          rw [eb] at oc
          exact oc W' .non H' (fxF_of dom tab har inj hN f eb) (show RpD K fa W' H' (.d .none) .non from .non)
      | ex e ρ' =>
        rw [ev] at oc
        intro c dd W' σ' H' f q
        cases eb : bkOf ρ' as 0 with
        | none => dsimp only [fin] at oc; rw [eb] at oc; exact oc.elim
        | some bk =>
          dsimp only [fin] at oc
          rw [eb] at oc
          exact oc c dd W' H' (fxF_of dom tab har inj hN f eb) q
      | rt r ρ' =>
        rw [ev] at oc
        intro W' σ' v H' f q
        dsimp only [fin] at oc
        cases er : retR ρ' r with
        | none => rw [er] at oc; exact oc.elim
        | some p =>
          obtain ⟨x, fr⟩ := p
          cases eb : bkOf ρ' as 0 with
          | none => rw [er, eb] at oc; exact oc.elim
          | some bk =>
            rw [er, eb] at oc
            refine oc W' v H' (fxF_of dom tab har inj hN f eb) ?_
            cases r with
            | sh y => cases er; exact q
            | fr y =>
              cases er
              obtain ⟨a, ea, w, n, o, r⟩ := q
              refine ⟨a, ea, w, ?_, r⟩
              cases z : H a with
              | none => rfl
              | some u => exact absurd (by show H a ≠ none; rw [z]; exact Option.some_ne_none u) n
            | br j =>
              dsimp only [retR] at er
              split at er
              · rename_i y hy
                cases er
                obtain ⟨ej, _⟩ := q
                obtain ⟨a, e1, w, r⟩ := f.rs.own j false x hy
                rw [ej] at e1
                cases e1
                refine ⟨a, rfl, w, ?_, r⟩
                -- it is none of the lent ones
                rcases f.ow a ⟨j, false, x, hy, ej⟩ with z | z
                · exfalso
                  obtain ⟨i', l, y, g1, g2⟩ := z
                  obtain ⟨b', h1, h2⟩ := start_get g1 (by simp)
                  cases b' <;> cases h2
                  obtain ⟨y', k1, k2⟩ := f.ln i' y g1
                  rw [g2] at k2
                  have := f.rs.inj i' j true false y' x a k1 hy k2 ej
                  subst this
                  rw [k1] at hy
                  cases hy
                · exact z
              · cases er
end Mp

set_option maxRecDepth 100000
set_option maxHeartbeats 4000000
/-! Mp22: what the head tells; the law's end. -/
namespace Mp
open PySem PySem.Spec PyProof.Rows L2

/-! ### constants -/
mutual
def datB (K : PySem.W.Frag) : P → Value → Bool
  | .none, .none => true
  | .bool b, .bool c => b == c
  | .int i, .int j _ => decide (i = j)
  | .str x, .str y _ => decide (x = y) && PyData.strOk x && decide (x.length ≤ 16777216)
  | .tuple ds, .ref a => (match K.lookup a with
    | some ⟨.type c, _, .seq its _, _⟩ => decide (c = "tuple") && decide (its.size ≤ 16777216) && datsB K ds its.toList
    | _ => false)
  | _, _ => false
def datsB (K : PySem.W.Frag) : List P → List Value → Bool
  | [], [] => true
  | d :: ds, u :: us => datB K d u && datsB K ds us
  | _, _ => false
end
mutual
theorem datB_ok {K : PySem.W.Frag} : ∀ {d : P} {u : Value}, datB K d u = true → ∃ v, RelV v u ∧ ∀ W H, Rp K W H d v
  | .none, u, h => by
    cases u <;> first | exact ⟨.non, rfl, fun _ _ => .non⟩ | (unfold datB at h; cases h)
  | .bool b, u, h => by
    cases u <;> first
      | (unfold datB at h
         rename_i c
         have := eq_of_beq h
         subst this
         exact ⟨.bl b, rfl, fun _ _ => .bl b⟩)
      | (unfold datB at h; cases h)
  | .int i, u, h => by
    cases u <;> first
      | (unfold datB at h
         have := of_decide_eq_true h
         subst this
         exact ⟨.int i, ⟨_, rfl⟩, fun _ _ => .int i⟩)
      | (unfold datB at h; cases h)
  | .str x, u, h => by
    cases u <;> first
      | (unfold datB at h
         rw [Bool.and_eq_true, Bool.and_eq_true] at h
         obtain ⟨⟨h1, h2⟩, h3⟩ := h
         have h1 := of_decide_eq_true h1
         subst h1
         exact ⟨.str x, ⟨_, rfl⟩, fun _ _ => .str x h2 (line_le (of_decide_eq_true h3))⟩)
      | (unfold datB at h; cases h)
  | .tuple ds, u, h => by
    cases u with
    | ref a =>
      unfold datB at h
      cases q : K.lookup a with
      | none => rw [q] at h; cases h
      | some o =>
        obtain ⟨oc, od, dt, osl⟩ := o
        rw [q] at h
        cases oc with
        | type c =>
          cases dt with
          | seq its n =>
            have h : (decide (c = "tuple") && decide (its.size ≤ 16777216) && datsB K ds its.toList) = true := h
            rw [Bool.and_eq_true, Bool.and_eq_true] at h
            obtain ⟨⟨h1, h2⟩, h3⟩ := h
            obtain ⟨vs, r, k⟩ := datsB_ok h3
            have hl : vs.length = its.size := by rw [r.length]; simp
            have hz := of_decide_eq_true h2
            refine ⟨.ref a, rfl, fun W H => .tup (.inr ⟨_, its, n, q, congrArg Value.type (of_decide_eq_true h1), rfl, line_le hz, r⟩) (by rw [hl]; exact line_le hz) (k W H)⟩
          | _ => cases h
        | _ => cases dt <;> cases h
    | _ => unfold datB at h; cases h
  | .list ds, u, h => by cases u <;> (unfold datB at h; cases h)
  | .dict ds, u, h => by cases u <;> (unfold datB at h; cases h)
theorem datsB_ok {K : PySem.W.Frag} : ∀ {ds : List P} {us : List Value}, datsB K ds us = true → ∃ vs, Vals vs us ∧ ∀ W H, RpA K W H ds vs
  | [], [], _ => ⟨[], .nil, fun _ _ => .nil⟩
  | [], _ :: _, h => by unfold datsB at h; cases h
  | _ :: _, [], h => by unfold datsB at h; cases h
  | d :: ds, u :: us, h => by
    unfold datsB at h
    rw [Bool.and_eq_true] at h
    obtain ⟨v, r, k⟩ := datB_ok h.1
    obtain ⟨vs, rs, ks⟩ := datsB_ok h.2
    exact ⟨v :: vs, .cons r rs, fun W H => .cons (k W H) (ks W H)⟩
end
/-! ### the text's tables -/
structure Tx where
  ds : List (Nat × Df)
  cs : List (Str × P)
  /-- the error classes -/
  xs : List (Str × Nat)
  b : List Str
  /-- defs that lambdas may call -/
  p : List Nat
def Tx.g (t : Tx) : List (Str × GV) := t.ds.map (fun p => (p.2.x, .fn p.1)) ++ t.cs.map (fun p => (p.1, .cst p.2)) ++ t.xs.map (fun p => (p.1, .exc p.2))
def Tx.fa (t : Tx) : List He.Fa := t.ds.map (fun p => .glo p.2.x) ++ t.b.map .free ++ t.xs.map (fun p => .glo p.1) ++ t.xs.map (fun p => .exc p.1)
def dD (d : Df) : He.DefD := ⟨(d.x, none), d.x, d.x, d.params, d.body, d.sc, [], []⟩
def Tx.fn (t : Tx) : List He.DefD := t.ds.map fun p => dD p.2
def cstB (K : PySem.W.Frag) (p : Str × P) : Bool := match PySem.W.nsIn K mainGlobals p.1 with
  | some (some u) => datB K p.2 u
  | _ => false
/-- the defs that make lambdas, their tables -/
def Tx.lams (t : Tx) : List (Nat × Df) := t.ds.filter fun p => p.2.lam
def Tx.tf (t : Tx) : List He.Defn := t.lams.map fun p => (p.2.x, none)
def Tx.tabs (t : Tx) (K : PySem.W.Frag) : List Addr := t.lams.map fun p => (He.cT K (p.2.x, none)).2
def Tx.ex (t : Tx) (K : PySem.W.Frag) : Bool := t.cs.all (cstB K) && decide (t.tabs K).Nodup
def Tx.ds0 (t : Tx) : List (Nat × Df) := t.ds.filter fun p => decide (p.1 ∈ t.p) && !p.2.lam
def Tx.g0 (t : Tx) : List (Str × GV) := t.ds0.map (fun p => (p.2.x, .fn p.1)) ++ t.cs.map (fun p => (p.1, .cst p.2))
theorem inj_of {α : Type} {f : α → Addr} : ∀ {l : List α}, (l.map f).Nodup → ∀ {a b : α}, a ∈ l → b ∈ l → f a = f b → a = b
  | [], _, _, _, h, _, _ => nomatch h
  | x :: l, nd, a, b, ha, hb, e => by
    rw [List.map_cons, List.nodup_cons] at nd
    rcases List.mem_cons.mp ha with ha1 | ha1
    · rcases List.mem_cons.mp hb with hb1 | hb1
      · rw [ha1, hb1]
      · refine absurd (List.mem_map.mpr ⟨b, hb1, ?_⟩) nd.1
        rw [← e, ha1]
    · rcases List.mem_cons.mp hb with hb1 | hb1
      · refine absurd (List.mem_map.mpr ⟨a, ha1, ?_⟩) nd.1
        rw [e, hb1]
      · exact inj_of nd.2 ha1 hb1 e
/-- where a def, a class stands -/
def Tx.fA (t : Tx) (K : PySem.W.Frag) : FA := fun i => match t.ds.lookup i with
  | some d => He.fAd K (d.x, none)
  | none => 0
def Tx.cA (t : Tx) (K : PySem.W.Frag) : FA := fun i => match t.xs.find? (fun p => p.2 == i) with
  | some p => He.ga K p.1
  | none => 0
def Tx.fT (t : Tx) (K : PySem.W.Frag) : FT := ⟨t.fA K, t.lams.map fun p => ((He.cT K (p.2.x, none)).2, p.2.lq)⟩
/-- ids and names stand once -/
def Tx.once (t : Tx) : Bool := decide (t.ds.map (·.1)).Nodup && decide (t.xs.map (·.2)).Nodup
theorem lookup_of {α : Type} {l : List (Nat × α)} (nd : (l.map (·.1)).Nodup) {i : Nat} {a : α} (h : (i, a) ∈ l) : l.lookup i = some a := by
  induction l with
  | nil => cases h
  | cons p l ih =>
    obtain ⟨j, b⟩ := p
    rw [List.map_cons, List.nodup_cons] at nd
    rcases List.mem_cons.mp h with h | h
    · cases h
      rw [List.lookup_cons_self]
    · have : i ≠ j := fun z => nd.1 (List.mem_map.mpr ⟨(i, a), h, z⟩)
      rw [List.lookup_cons]
      have hb : (i == j) = false := by simpa using this
      rw [hb]
      exact ih nd.2 h
theorem find_of {l : List (Str × Nat)} (nd : (l.map (·.2)).Nodup) {i : Nat} {x : Str} (h : (x, i) ∈ l) : l.find? (fun p => p.2 == i) = some (x, i) := by
  induction l with
  | nil => cases h
  | cons p l ih =>
    obtain ⟨y, j⟩ := p
    rw [List.map_cons, List.nodup_cons] at nd
    rcases List.mem_cons.mp h with h | h
    · cases h
      rw [List.find?_cons_of_pos (by simp)]
    · have : i ≠ j := fun z => nd.1 (List.mem_map.mpr ⟨(x, i), h, z⟩)
      rw [List.find?_cons_of_neg (by simp; exact fun z => this z.symm)]
      exact ih nd.2 h
theorem modOk {t : Tx} {w : World} {K : PySem.W.Frag} {base : Heap} {h : Heap} {mg : Str → Option Value} {ts : List He.Tab} {tf : List He.Defn} (c : He.SaysX t.fa t.fn ts tf t.ex w h K) (X : K.In h) (G : h.Ns mainGlobals mg) (once : t.once = true)
    (bnd : ∀ p ∈ t.ds, ∀ (kV doc pm : Value) (an : Option Addr) (cdv ct : Value) (us : List Value), us.length = p.2.ps.length → bindArgs (PySem.W.fnOf p.2.x p.2.x p.2.params p.2.body p.2.sc .none kV doc pm an cdv ct) ⟨us, []⟩ = pure (p.2.ps.zip us)) (TB : ∀ p ∈ t.tf.map (He.cT K), LamX.TabB base mg p.1 p.2) :
    ModOk K mg base (t.fT K) (t.cA K) t.g t.b t.ds := by
  unfold Tx.once at once
  rw [Bool.and_eq_true, decide_eq_true_eq, decide_eq_true_eq] at once
  obtain ⟨nd1, nd2⟩ := once
  have cd : He.SaysD t.fa t.fn K := c.t.d
  have fAe : ∀ {i : Nat} {d : Df}, (i, d) ∈ t.ds → t.fA K i = He.fAd K (d.x, none) := fun {i d} hm => by
    unfold Tx.fA
    rw [lookup_of nd1 hm]
  have cAe : ∀ {x : Str} {i : Nat}, (x, i) ∈ t.xs → t.cA K i = He.ga K x := fun {x i} hm => by
    unfold Tx.cA
    rw [find_of nd2 hm]
  have gm : ∀ {x : Str} {v : GV}, t.g.lookup x = some v → (∃ p ∈ t.ds, x = p.2.x ∧ v = .fn p.1) ∨ (∃ p ∈ t.cs, x = p.1 ∧ v = .cst p.2) ∨ ∃ p ∈ t.xs, x = p.1 ∧ v = .exc p.2 := fun {x v} e => by
    have hm := PySem.mem_of_lookup e
    unfold Tx.g at hm
    rw [List.mem_append, List.mem_append] at hm
    rcases hm with (hm | hm) | hm
    · obtain ⟨p, hp, e⟩ := List.mem_map.mp hm; cases e; exact .inl ⟨p, hp, rfl, rfl⟩
    · obtain ⟨p, hp, e⟩ := List.mem_map.mp hm; cases e; exact .inr (.inl ⟨p, hp, rfl, rfl⟩)
    · obtain ⟨p, hp, e⟩ := List.mem_map.mp hm; cases e; exact .inr (.inr ⟨p, hp, rfl, rfl⟩)
  have cmore := c.more
  unfold Tx.ex at cmore
  rw [Bool.and_eq_true, decide_eq_true_eq] at cmore
  obtain ⟨cmore, cnd⟩ := cmore
  refine ⟨fun x i e => ?_, fun i d hm => ?_, fun x v e => ?_, fun x v e => ?_, fun x hb => ?_, fun i d hm hl o fd cc lk ho hc => ?_⟩
  · rcases gm e with ⟨p, hp, rfl, e2⟩ | ⟨p, hp, _, e2⟩ | ⟨p, hp, _, e2⟩
    · cases e2
      refine ⟨?_, p.2, hp, rfl⟩
      show mg _ = some (.ref (t.fA K _))
      rw [fAe (d := p.2) hp]
      exact He.glo_ok X G (cd.facts (List.mem_append_left _ (List.mem_append_left _ (List.mem_append_left _ (List.mem_map.mpr ⟨p, hp, rfl⟩)))))
    · cases e2
    · cases e2
  · obtain ⟨fd, F⟩ := cd.defs (d := dD d) (List.mem_map.mpr ⟨(i, d), hm, rfl⟩)
    have F : FunD K d.x d.x d.params d.body d.sc [] [] (t.fT K i) fd := by show FunD K d.x d.x d.params d.body d.sc [] [] (t.fA K i) fd; rw [fAe hm]; exact F
    exact ⟨fd, F, F.bindsN (bnd (i, d) hm)⟩
  · rcases gm e with ⟨p, hp, _, e2⟩ | ⟨p, hp, rfl, e2⟩ | ⟨p, hp, _, e2⟩
    · cases e2
    · cases e2
      have hc := List.all_eq_true.mp cmore p hp
      unfold cstB at hc
      split at hc
      · rename_i u hu
        obtain ⟨v, r, k⟩ := datB_ok hc
        exact ⟨u, v, PySem.W.mg_of X G hu, r, k⟩
      · cases hc
    · cases e2
  · rcases gm e with ⟨p, hp, _, e2⟩ | ⟨p, hp, _, e2⟩ | ⟨p, hp, rfl, e2⟩
    · cases e2
    · cases e2
    · cases e2
      rw [cAe (x := p.1) hp]
      obtain ⟨h1, h2, h3, h4⟩ := He.exc_ok (cd.facts (List.mem_append_right _ (List.mem_map.mpr ⟨p, hp, rfl⟩)))
      exact ⟨⟨_, _, _, _, PySem.F.excBase_ValueError, h1⟩, He.glo_ok X G (cd.facts (List.mem_append_left _ (List.mem_append_right _ (List.mem_map.mpr ⟨p, hp, rfl⟩)))), h2, h3, h4⟩
  · exact He.free_ok X G (cd.facts (List.mem_append_left _ (List.mem_append_left _ (List.mem_append_right _ (List.mem_map.mpr ⟨x, hb, rfl⟩)))))
  · have mem : (i, d) ∈ t.lams := List.mem_filter.mpr ⟨hm, hl⟩
    have lk : K.lookup (t.fA K i) = some o := lk
    rw [fAe hm] at lk
    obtain ⟨oc, od, dt, osl⟩ := o
    have ho : dt = .func fd := ho
    subst ho
    have e1 := He.codeOf_eq (p := (d.x, none)) lk hc
    refine ⟨(He.cT K (d.x, none)).2, ?_, List.mem_map.mpr ⟨(i, d), mem, rfl⟩, fun q hq e2 => ?_⟩
    · have := TB (He.cT K (d.x, none)) (List.mem_map.mpr ⟨(d.x, none), List.mem_map.mpr ⟨(i, d), mem, rfl⟩, rfl⟩)
      have e3 : (He.cT K (d.x, none)).1 = cc := e1
      rw [e3] at this
      exact this
    · obtain ⟨⟨j, d'⟩, hj, e3⟩ := List.mem_map.mp hq
      subst e3
      have := inj_of (f := fun p : Nat × Df => (He.cT K (p.2.x, none)).2) cnd hj mem e2
      cases this
      rfl
theorem mg_fn {t : Tx} {w : World} {K : PySem.W.Frag} {h : Heap} {mg : Str → Option Value} {ts : List He.Tab} {tf : List He.Defn} (c : He.SaysX t.fa t.fn ts tf t.ex w h K) (X : K.In h) (G : h.Ns mainGlobals mg) (once : t.once = true) : ∀ p ∈ t.ds, mg p.2.x = some (.ref (t.fA K p.1)) := fun p hp => by
  unfold Tx.once at once
  rw [Bool.and_eq_true, decide_eq_true_eq, decide_eq_true_eq] at once
  have cd : He.SaysD t.fa t.fn K := c.t.d
  have e : t.fA K p.1 = He.fAd K (p.2.x, none) := by
    unfold Tx.fA
    rw [lookup_of once.1 (show (p.1, p.2) ∈ t.ds from hp)]
  rw [e]
  exact He.glo_ok X G (cd.facts (List.mem_append_left _ (List.mem_append_left _ (List.mem_append_left _ (List.mem_map.mpr ⟨p, hp, rfl⟩)))))
theorem mg_cst {t : Tx} {w : World} {K : PySem.W.Frag} {h : Heap} {mg : Str → Option Value} {ts : List He.Tab} {tf : List He.Defn} (c : He.SaysX t.fa t.fn ts tf t.ex w h K) (X : K.In h) (G : h.Ns mainGlobals mg) : ∀ p ∈ t.cs, ∃ u v, mg p.1 = some u ∧ RelV v u ∧ ∀ W H, Rp K W H p.2 v := fun p hp => by
  have cmore := c.more
  unfold Tx.ex at cmore
  rw [Bool.and_eq_true] at cmore
  have hc := List.all_eq_true.mp cmore.1 p hp
  unfold cstB at hc
  split at hc
  · rename_i u hu
    obtain ⟨v, r, k⟩ := datB_ok hc
    exact ⟨u, v, PySem.W.mg_of X G hu, r, k⟩
  · cases hc
/-- what lambdas may call -/
theorem modOk0 {t : Tx} {K : PySem.W.Frag} {base : Heap} {mg : Str → Option Value} (M : ModOk K mg base (t.fT K) (t.cA K) t.g t.b t.ds) (F1 : ∀ p ∈ t.ds, mg p.2.x = some (.ref (t.fA K p.1))) (F2 : ∀ p ∈ t.cs, ∃ u v, mg p.1 = some u ∧ RelV v u ∧ ∀ W H, Rp K W H p.2 v) : ModOk K mg base ⟨t.fA K, []⟩ (t.cA K) t.g0 t.b t.ds0 := by
  have sub : ∀ {i : Nat} {d : Df}, (i, d) ∈ t.ds0 → (i, d) ∈ t.ds ∧ d.lam = false := fun {i d} h => by
    obtain ⟨h1, h2⟩ := List.mem_filter.mp h
    rw [Bool.and_eq_true] at h2
    exact ⟨h1, by have := h2.2; simpa using this⟩
  have gm : ∀ {x : Str} {v : GV}, t.g0.lookup x = some v → (∃ p ∈ t.ds0, x = p.2.x ∧ v = .fn p.1) ∨ ∃ p ∈ t.cs, x = p.1 ∧ v = .cst p.2 := fun {x v} e => by
    have hm := PySem.mem_of_lookup e
    unfold Tx.g0 at hm
    rw [List.mem_append] at hm
    rcases hm with hm | hm
    · obtain ⟨p, hp, e⟩ := List.mem_map.mp hm; cases e; exact .inl ⟨p, hp, rfl, rfl⟩
    · obtain ⟨p, hp, e⟩ := List.mem_map.mp hm; cases e; exact .inr ⟨p, hp, rfl, rfl⟩
  refine ⟨fun x i e => ?_, fun i d hm => M.fun_ i d (sub hm).1, fun x v e => ?_, fun x v e => ?_, M.blt, fun i d hm hl => ?_⟩
  · rcases gm e with ⟨p, hp, rfl, e2⟩ | ⟨p, hp, _, e2⟩
    · cases e2
      exact ⟨F1 p (List.mem_filter.mp hp).1, p.2, hp, rfl⟩
    · cases e2
  · rcases gm e with ⟨p, hp, _, e2⟩ | ⟨p, hp, rfl, e2⟩
    · cases e2
    · cases e2
      exact F2 p hp
  · rcases gm e with ⟨p, hp, _, e2⟩ | ⟨p, hp, rfl, e2⟩ <;> cases e2
  · rw [(sub hm).2] at hl; cases hl
/-! ### the law -/
theorem spLaw_of {K : PySem.W.Frag} {fa : FT} {ca : FA} {Φ : Fs} {i : Nat} {H : Hp} {a : Addr} {ns : List Int} (tab : LamX.Tabs fa.t H) (h : SqL K H a (ns.map V.int)) (hz : ns.length ≤ 16777216) (e : Φ i [.sh (.fz ns)] = .ok (.d (.bool true)) false [none]) :
    spF K fa ca Φ i [.ref a] H (fun v _ => v = .bl true) fun _ _ _ => False := by
  refine ⟨fun _ => False, [.sh (.fz ns)], fun _ w => w.elim, tab, .sh ⟨hz, a, rfl, FzL.of h⟩ .nil, fun i j x y b h1 => ?_, ?_⟩
  · cases i with
    | zero => simp at h1
    | succ i => simp at h1
  · rw [e]
    intro W' v H' f r
    have r : Rp K W' H' (.bool true) v := r
    cases r
    rfl

/-- the law's def at the head's heap -/
theorem lawAt {t : Tx} {l : PySem.W.OpenLaw} {w : World} {K : PySem.W.Frag} {h : Heap} {mg : Str → Option Value} {T : Nat → Option Fd} {f : Addr} {n k i : Nat} {d : Df} (c : He.SaysX t.fa t.fn [] t.tf t.ex w h K) (X : K.In h) (G : h.Ns mainGlobals mg) (once : t.once = true)
    (bnd : ∀ p ∈ t.ds, ∀ (kV doc pm : Value) (an : Option Addr) (cdv ct : Value) (us : List Value), us.length = p.2.ps.length → bindArgs (PySem.W.fnOf p.2.x p.2.x p.2.params p.2.body p.2.sc .none kV doc pm an cdv ct) ⟨us, []⟩ = pure (p.2.ps.zip us))
    (hT0 : DfsOk t.g0 [] t.b t.ds0 T) (hT : DfsOk t.g t.g0 t.b t.ds T) (hd : (i, d) ∈ t.ds) (hx : d.x = "law") (hps : d.ps = [("script" : Str)]) (hf : mg "law" = some (.ref f)) (hn : n ≤ 16777216) (law : ∀ ns : List Int, ns.length ≤ n → (∀ z ∈ ns, Builtin.Int.intBits z ≤ 1048576) → runs T k i [.sh (.fz ns)] = .ok (.d (.bool true)) false [none]) :
    LamX.LawAtS l w K (L2.CX l.prog w) (2 * k) n "script" mg f h := by
  have F1 := mg_fn c X G once
  have F2 := mg_cst c X G
  obtain ⟨fd, F⟩ : ∃ fd, FunD K d.x d.x d.params d.body d.sc [] [] (t.fA K i) fd := by
    have cd : He.SaysD t.fa t.fn K := c.t.d
    obtain ⟨fd, F⟩ := cd.defs (d := dD d) (List.mem_map.mpr ⟨(i, d), hd, rfl⟩)
    have once' := once
    unfold Tx.once at once'
    rw [Bool.and_eq_true, decide_eq_true_eq, decide_eq_true_eq] at once'
    have e : t.fA K i = He.fAd K (d.x, none) := by
      unfold Tx.fA
      rw [lookup_of once'.1 hd]
    rw [e]
    exact ⟨fd, F⟩
  have once' := once
  unfold Tx.once at once'
  rw [Bool.and_eq_true, decide_eq_true_eq, decide_eq_true_eq] at once'
  have cd : He.SaysD t.fa t.fn K := c.t.d
  have ef : t.fA K i = f := by
    have e1 : mg d.x = some (.ref (He.fAd K (d.x, none))) := He.glo_ok X G (cd.facts (List.mem_append_left _ (List.mem_append_left _ (List.mem_append_left _ (List.mem_map.mpr ⟨(i, d), hd, rfl⟩)))))
    rw [hx, hf] at e1
    have e2 : t.fA K i = He.fAd K (d.x, none) := by
      unfold Tx.fA
      rw [lookup_of once'.1 hd]
    rw [e2, hx]
    cases e1
    rfl
  have csM : ∀ p ∈ t.tf.map (He.cT K), ∃ q ∈ t.tf, p = He.cT K q := fun p hp => by
    obtain ⟨q, hq, e⟩ := List.mem_map.mp hp
    exact ⟨q, hq, e.symm⟩
  refine ⟨fd, t.tf.map (He.cT K), spF K (t.fT K) (t.cA K) (runs T k) i, fun p hp => ?_, fun p hp => ?_, fun p hp => ?_, fun s u => ?_, fun H a ns hl hb ht hS => spLaw_of (fun q hq => ?_) hS (Nat.le_trans hl hn) (law ns hl hb), fun base _ _ TB => ?_⟩
  · obtain ⟨q, hq, rfl⟩ := csM p hp
    exact c.empty q hq
  · obtain ⟨q, hq, rfl⟩ := csM p hp
    exact c.out q hq
  · obtain ⟨q, hq, rfl⟩ := csM p hp
    exact PySem.W.codeHd_of_K X (c.hd q hq)
  · have := F.bindsA (bnd (i, d) hd) s [u] (by show 1 = d.ps.length; rw [hps]; rfl)
    rw [hps] at this
    exact this
  · obtain ⟨⟨j, d'⟩, hj, rfl⟩ := List.mem_map.mp hq
    exact LamX.TabS.nil (ht _ (List.mem_map.mpr ⟨(d'.x, none), List.mem_map.mpr ⟨(j, d'), hj, rfl⟩, rfl⟩))
  · have M := modOk c X G once bnd TB
    have M0 := modOk0 M F1 F2
    have P0 : PureOk l.prog w K mg base ⟨t.fA K, []⟩ (t.cA K) [] T := ⟨fun _ _ _ e => (by cases e), fun _ _ e => (by cases e), fun _ _ e => (by cases e)⟩
    have PU : PureOk l.prog w K mg base (t.fT K) (t.cA K) t.g0 T := by
      refine ⟨fun k x j e => ?_, M0.cst, fun x c e => ?_⟩
      · obtain ⟨e1, d', e2, e3⟩ := M0.fns x j e
        obtain ⟨fd', F', B'⟩ := M0.fun_ j d' e2
        exact ⟨e1, F'.kp, fd', d'.ps, fn_all M0 hT0 P0 k j d' fd' e2 F', B'⟩
      · have hm := PySem.mem_of_lookup e
        unfold Tx.g0 at hm
        rw [List.mem_append] at hm
        rcases hm with hm | hm
        · obtain ⟨p, hp, e⟩ := List.mem_map.mp hm; cases e
        · obtain ⟨p, hp, e⟩ := List.mem_map.mp hm; cases e
    have := fn_all (P := l.prog) (w := w) (base := base) M hT PU k i d fd hd F
    rw [hps] at this
    have e4 : (t.fT K) i = f := ef
    rw [e4] at this
    exact this
theorem cx_never {P : Program} {w : World} {H : Hp} {s : Shared} {e : Value} {s' : Shared} (h : L2.CX P w [] H s (fun _ _ _ => False) e s') : False := by
  obtain ⟨_, _, _, _, _, _, _, _, _, _, _, _, z⟩ := h
  exact z

/-! ### lists of defs, one by one -/
def AllD (Q : Nat × Df → Prop) : List (Nat × Df) → Prop
  | [] => True
  | p :: r => Q p ∧ AllD Q r
theorem AllD.of {Q : Nat × Df → Prop} : ∀ {l : List (Nat × Df)}, AllD Q l → ∀ p ∈ l, Q p
  | [], _, p, hp => by cases hp
  | q :: r, h, p, hp => by
    rcases List.mem_cons.mp hp with e | e
    · subst e; exact h.1
    · exact AllD.of h.2 p e
def Bnd (p : Nat × Df) : Prop := ∀ (kV doc pm : Value) (an : Option Addr) (cdv ct : Value) (us : List Value), us.length = p.2.ps.length → bindArgs (PySem.W.fnOf p.2.x p.2.x p.2.params p.2.body p.2.sc .none kV doc pm an cdv ct) ⟨us, []⟩ = pure (p.2.ps.zip us)
def DOk (g g0 : List (Str × GV)) (b : List Str) (T : Nat → Option Fd) (p : Nat × Df) : Prop := ∃ t, T p.1 = some t ∧ dfOk g g0 b p.2 t
end Mp

set_option maxRecDepth 100000
set_option maxHeartbeats 4000000
/-! Mq1: the evaluator by simp. -/
namespace Mp
open PySem L2

/-! ### results -/
@[simp] theorem R_ite_ok {α : Type} (c : Prop) [Decidable c] (a b : α) (ρ : Env) : (if c then R.ok a ρ else R.ok b ρ) = R.ok (if c then a else b) ρ := by split <;> rfl
@[simp] theorem sh_ite (c : Prop) [Decidable c] (a b : D) : (if c then RV.sh a else RV.sh b) = RV.sh (if c then a else b) := by split <;> rfl
@[simp] theorem d_ite (c : Prop) [Decidable c] (a b : P) : (if c then D.d a else D.d b) = D.d (if c then a else b) := by split <;> rfl
@[simp] theorem bool_ite (c : Prop) [Decidable c] (a b : Bool) : (if c then PyData.bool a else PyData.bool b) = PyData.bool (if c then a else b) := by split <;> rfl
@[simp] theorem int_ite (c : Prop) [Decidable c] (a b : Int) : (if c then PyData.int a else PyData.int b) = PyData.int (if c then a else b) := by split <;> rfl
@[simp] theorem ite_false_and (a b : Bool) : (if a = false then a else b) = (a && b) := by cases a <;> rfl
@[simp] theorem ite_true_or (a b : Bool) : (if a = true then a else b) = (a || b) := by cases a <;> rfl
@[simp] theorem sOf_ok {α : Type} (a : α) (ρ : Env) (k : α → Env → SR) : sOf (.ok a ρ) k = k a ρ := rfl
@[simp] theorem sOf_ex {α : Type} (e : Ex) (ρ : Env) (k : α → Env → SR) : sOf (.ex e ρ) k = .ex e ρ := rfl
@[simp] theorem rt_ite (c : Prop) [Decidable c] (a b : RV) (ρ : Env) : (if c then SR.rt a ρ else SR.rt b ρ) = SR.rt (if c then a else b) ρ := by split <;> rfl
@[simp] theorem nx_ite (c : Prop) [Decidable c] (ρ ρ' : Env) : (if c then SR.nx ρ else SR.nx ρ') = SR.nx (if c then ρ else ρ') := by split <;> rfl
@[simp] theorem shP_eq (x : P) : shP x = .sh (.d x) := rfl
@[simp] theorem newP_list (xs : List P) : newP (.list xs) = .fr (.d (.list xs)) := rfl
@[simp] theorem newP_int (i : Int) : newP (.int i) = .sh (.d (.int i)) := rfl
@[simp] theorem newP_str (i : Str) : newP (.str i) = .sh (.d (.str i)) := rfl
@[simp] theorem newP_tuple (xs : List P) : newP (.tuple xs) = .sh (.d (.tuple xs)) := rfl
@[simp] theorem newP_bool (i : Bool) : newP (.bool i) = .sh (.d (.bool i)) := rfl
@[simp] theorem deref_sh (ρ : Env) (x : D) : deref ρ (.sh x) = some x := rfl
@[simp] theorem deref_fr (ρ : Env) (x : D) : deref ρ (.fr x) = some x := rfl
@[simp] theorem derefP_sh (ρ : Env) (x : P) : derefP ρ (.sh (.d x)) = some x := rfl
@[simp] theorem derefP_fr (ρ : Env) (x : P) : derefP ρ (.fr (.d x)) = some x := rfl
@[simp] theorem derefP_br (ρ : Env) (j : Nat) : derefP ρ (.br j) = match ρ[j]? with
    | some (.own _ (.d x)) => some x
    | _ => none := by
  unfold derefP
  dsimp only [deref]
  cases ρ[j]? with
  | none => rfl
  | some s => cases s with
    | own l x => cases x <;> rfl
    | _ => rfl
@[simp] theorem deref_br (ρ : Env) (j : Nat) : deref ρ (.br j) = match ρ[j]? with
    | some (.own _ x) => some x
    | _ => none := rfl
/-! ### operations -/
@[simp] theorem varE_eq (i : Nat) (ρ : Env) : varE i ρ = match ρ[i]? with
  | some (.val x) => .ok (.sh x) ρ
  | some (.own _ _) => .ok (.br i) ρ
  | _ => .bad := rfl
@[simp] theorem un_eq (nw : Bool) (f : P → Option P) (r : RV) (ρ : Env) : un nw f r ρ = match derefP ρ r with
  | some x => (match f x with
    | some y => .ok (if nw then newP y else shP y) ρ
    | none => .bad)
  | none => .bad := rfl
@[simp] theorem bi2_eq (nw : Bool) (f : P → P → Option P) (r s : RV) (ρ : Env) : bi2 nw f r s ρ = match derefP ρ r, derefP ρ s with
  | some x, some y => (match f x y with
    | some z => .ok (if nw then newP z else shP z) ρ
    | none => .bad)
  | _, _ => .bad := rfl
@[simp] theorem cm2_eq (f : P → P → Option Bool) (r s : RV) (ρ : Env) : cm2 f r s ρ = match derefP ρ r, derefP ρ s with
  | some x, some y => (match f x y with
    | some z => .ok (shP (.bool z)) ρ
    | none => .bad)
  | _, _ => .bad := rfl
@[simp] theorem truR_bool (b : Bool) (ρ : Env) : truR (.sh (.d (.bool b))) ρ = .ok b ρ := rfl
@[simp] theorem truR_int (b : Int) (ρ : Env) : truR (.sh (.d (.int b))) ρ = .ok (b != 0) ρ := rfl
@[simp] theorem truR_list (b : List P) (ρ : Env) : truR (.sh (.d (.list b))) ρ = .ok (!b.isEmpty) ρ := rfl
@[simp] theorem truR_listF (b : List P) (ρ : Env) : truR (.fr (.d (.list b))) ρ = .ok (!b.isEmpty) ρ := rfl
@[simp] theorem truR_tuple (b : List P) (ρ : Env) : truR (.sh (.d (.tuple b))) ρ = .ok (!b.isEmpty) ρ := rfl
@[simp] theorem truR_none (ρ : Env) : truR (.sh (.d .none)) ρ = .ok false ρ := rfl
@[simp] theorem chainE_eq (op op' : COp) (a b c : Env → R RV) (ρ : Env) : chainE op op' a b c ρ =
  (a ρ).bind fun r ρ1 => (b ρ1).bind fun s ρ2 => (cm2 op.f r s ρ2).bind fun t ρ3 => (truR t ρ3).bind fun k ρ4 => if k then (c ρ4).bind fun u ρ5 => cm2 op'.f s u ρ5 else .ok (shP (.bool false)) ρ4 := rfl
@[simp] theorem BOp_add : BOp.f .add = addP := rfl
@[simp] theorem BOp_sub : BOp.f .sub = subP := rfl
@[simp] theorem BOp_mul : BOp.f .mul = mulP := rfl
@[simp] theorem BOp_fdiv : BOp.f .fdiv = fdivP := rfl
@[simp] theorem BOp_mod : BOp.f .mod = modP := rfl
@[simp] theorem BOp_pow : BOp.f .pow = powP := rfl
@[simp] theorem addP_int (i j : Int) : addP (.int i) (.int j) = some (.int (i + j)) := rfl
@[simp] theorem addP_tup (i j : List P) : addP (.tuple i) (.tuple j) = if i.length + j.length ≤ 16777216 then some (.tuple (i ++ j)) else none := rfl
@[simp] theorem addP_lst (i j : List P) : addP (.list i) (.list j) = if i.length + j.length ≤ 16777216 then some (.list (i ++ j)) else none := rfl
@[simp] theorem subP_int (i j : Int) : subP (.int i) (.int j) = some (.int (i - j)) := rfl
@[simp] theorem mulP_int (i j : Int) : mulP (.int i) (.int j) = if smallI i || smallI j then some (.int (i * j)) else none := rfl
@[simp] theorem fdivP_int (i j : Int) : fdivP (.int i) (.int j) = if 0 < j ∧ j < 1073741824 then some (.int (i / j)) else none := rfl
@[simp] theorem modP_int (i j : Int) : modP (.int i) (.int j) = if 0 < j then some (.int (i % j)) else none := rfl
@[simp] theorem powP_int (i j : Int) : powP (.int i) (.int j) = if 0 ≤ j ∧ j ≤ 1000 ∧ -1000000 ≤ i ∧ i ≤ 1000000 then some (.int (i ^ j.toNat)) else none := rfl
@[simp] theorem negP_int (i : Int) : negP (.int i) = some (.int (-i)) := rfl
@[simp] theorem COp_eq (a b : P) : COp.f .eq a b = eqP a b := rfl
@[simp] theorem COp_ne (a b : P) : COp.f .ne a b = (eqP a b).map (!·) := rfl
@[simp] theorem COp_lt (a b : P) : COp.f .lt a b = ltP a b := rfl
@[simp] theorem COp_le (a b : P) : COp.f .le a b = leP a b := rfl
@[simp] theorem COp_gt (a b : P) : COp.f .gt a b = ltP b a := rfl
@[simp] theorem COp_ge (a b : P) : COp.f .ge a b = leP b a := rfl
@[simp] theorem COp_is (a b : P) : COp.f .is a b = isP a b := rfl
@[simp] theorem COp_isnot (a b : P) : COp.f .isnot a b = (isP a b).map (!·) := rfl
@[simp] theorem COp_in (a b : P) : COp.f .in_ a b = inP a b := rfl
@[simp] theorem COp_notin (a b : P) : COp.f .notin a b = (inP a b).map (!·) := rfl
@[simp] theorem leP_int (a b : Int) : leP (.int a) (.int b) = some (decide (a ≤ b)) := rfl
@[simp] theorem ltP_int (a b : Int) : ltP (.int a) (.int b) = some (decide (a < b)) := rfl
@[simp] theorem isP_none (a : P) : isP a .none = some (isNoneP a) := by cases a <;> rfl
@[simp] theorem isP_bool (a b : Bool) : isP (.bool a) (.bool b) = some (a == b) := rfl
@[simp] theorem isNoneP_none : isNoneP .none = true := rfl
@[simp] theorem isNoneP_int (i : Int) : isNoneP (.int i) = false := rfl
@[simp] theorem isNoneP_bool (i : Bool) : isNoneP (.bool i) = false := rfl
@[simp] theorem isNoneP_str (i : Str) : isNoneP (.str i) = false := rfl
@[simp] theorem isNoneP_tuple (i : List P) : isNoneP (.tuple i) = false := rfl
@[simp] theorem isNoneP_list (i : List P) : isNoneP (.list i) = false := rfl
/-- == -/
theorem depth_int (i : Int) : (PyData.int i).depth = 0 := rfl
@[simp] theorem eqP_int (a b : Int) : eqP (.int a) (.int b) = some (decide (a = b)) := by
  unfold eqP
  rw [if_pos (show min (PyData.int a).depth (PyData.int b).depth ≤ 64 by show min 0 0 ≤ 64; decide)]
  show some (a == b) = _
  by_cases h : a = b <;> simp [h]
@[simp] theorem eqP_str (a b : Str) : eqP (.str a) (.str b) = some (a == b) := by
  unfold eqP
  rw [if_pos (show min (PyData.str a).depth (PyData.str b).depth ≤ 64 by show min 0 0 ≤ 64; decide)]
  rfl
@[simp] theorem Bi_len : Bi.f .len = lenP := rfl
@[simp] theorem Bi_abs : Bi.f .abs = absP := rfl
@[simp] theorem Bi_int : Bi.f .int = intP := rfl
@[simp] theorem Bi_all : Bi.f .all = allP := rfl
@[simp] theorem Bi_any : Bi.f .any = anyP := rfl
@[simp] theorem Bi_tuple : Bi.f .tuple = tupP := rfl
@[simp] theorem Bi_sum : Bi.f .sum = sumP := rfl
@[simp] theorem Bi_str : Bi.f .str = strP := rfl
@[simp] theorem Bi_isi (T : Ty) (x : P) : Bi.f (.isi T) x = some (.bool (isiP T x)) := rfl
@[simp] theorem lenP_list (x : List P) : lenP (.list x) = some (.int x.length) := rfl
@[simp] theorem lenP_tuple (x : List P) : lenP (.tuple x) = some (.int x.length) := rfl
@[simp] theorem absP_int (x : Int) : absP (.int x) = some (.int (if x < 0 then -x else x)) := rfl
@[simp] theorem intP_int (x : Int) : intP (.int x) = some (.int x) := rfl
@[simp] theorem allP_list (x : List P) : allP (.list x) = (boolsP x).map fun bs => .bool (bs.all id) := rfl
@[simp] theorem anyP_list (x : List P) : anyP (.list x) = (boolsP x).map fun bs => .bool (bs.any id) := rfl
@[simp] theorem tupP_list (x : List P) : tupP (.list x) = some (.tuple x) := rfl
@[simp] theorem tupP_tuple (x : List P) : tupP (.tuple x) = some (.tuple x) := rfl
@[simp] theorem sumP_list (x : List P) : sumP (.list x) = (intsP x).map fun ns => .int ns.sum := rfl
@[simp] theorem strP_str (x : Str) : strP (.str x) = some (.str x) := rfl
theorem boolsP_map {α : Type} (f : α → Bool) : ∀ xs : List α, boolsP (xs.map fun x => .bool (f x)) = some (xs.map f)
  | [] => rfl
  | x :: xs => by simp [boolsP, boolsP_map f xs]
theorem intsP_map {α : Type} (f : α → Int) : ∀ xs : List α, intsP (xs.map fun x => .int (f x)) = some (xs.map f)
  | [] => rfl
  | x :: xs => by simp [intsP, intsP_map f xs]
@[simp] theorem isi_tuple_tuple (x : List P) : isiP .tuple (.tuple x) = true := rfl
@[simp] theorem isi_int_int (x : Int) : isiP .int (.int x) = true := rfl
@[simp] theorem isi_int_bool (x : Bool) : isiP .int (.bool x) = true := rfl
@[simp] theorem isi_bool_bool (x : Bool) : isiP .bool (.bool x) = true := rfl
@[simp] theorem isi_str_str (x : Str) : isiP .str (.str x) = true := rfl
@[simp] theorem isi_list_list (x : List P) : isiP .list (.list x) = true := rfl
@[simp] theorem isi_tuple_int (x : Int) : isiP .tuple (.int x) = false := rfl
@[simp] theorem isi_tuple_bool (x : Bool) : isiP .tuple (.bool x) = false := rfl
@[simp] theorem isi_tuple_str (x : Str) : isiP .tuple (.str x) = false := rfl
@[simp] theorem isi_tuple_list (x : List P) : isiP .tuple (.list x) = false := rfl
@[simp] theorem isi_tuple_none : isiP .tuple .none = false := rfl
@[simp] theorem isi_bool_int (x : Int) : isiP .bool (.int x) = false := rfl
@[simp] theorem isi_bool_tuple (x : List P) : isiP .bool (.tuple x) = false := rfl
@[simp] theorem isi_bool_list (x : List P) : isiP .bool (.list x) = false := rfl
@[simp] theorem isi_bool_str (x : Str) : isiP .bool (.str x) = false := rfl
@[simp] theorem isi_bool_none : isiP .bool .none = false := rfl
@[simp] theorem isi_int_tuple (x : List P) : isiP .int (.tuple x) = false := rfl
@[simp] theorem isi_int_list (x : List P) : isiP .int (.list x) = false := rfl
@[simp] theorem isi_int_str (x : Str) : isiP .int (.str x) = false := rfl
@[simp] theorem isi_int_none : isiP .int .none = false := rfl
@[simp] theorem isi_str_int (x : Int) : isiP .str (.int x) = false := rfl
@[simp] theorem isi_str_bool (x : Bool) : isiP .str (.bool x) = false := rfl
@[simp] theorem isi_str_tuple (x : List P) : isiP .str (.tuple x) = false := rfl
@[simp] theorem isi_str_list (x : List P) : isiP .str (.list x) = false := rfl
@[simp] theorem isi_str_none : isiP .str .none = false := rfl
@[simp] theorem isi_list_int (x : Int) : isiP .list (.int x) = false := rfl
@[simp] theorem isi_list_bool (x : Bool) : isiP .list (.bool x) = false := rfl
@[simp] theorem isi_list_tuple (x : List P) : isiP .list (.tuple x) = false := rfl
@[simp] theorem isi_list_str (x : Str) : isiP .list (.str x) = false := rfl
@[simp] theorem isi_list_none : isiP .list .none = false := rfl
@[simp] theorem isi_dict (T : Ty) (x : List (P × P)) : isiP T (.dict x) = false := by cases T <;> rfl
/-! displays -/
@[simp] theorem datas_nil : datas [] = some [] := rfl
@[simp] theorem datas_sh (x : P) (r : List RV) : datas (.sh (.d x) :: r) = (datas r).map (x :: ·) := rfl
@[simp] theorem datas_fr (x : P) (r : List RV) : datas (.fr (.d x) :: r) = (datas r).map (x :: ·) := rfl
@[simp] theorem tupE_eq (rs : List RV) (ρ : Env) : tupE rs ρ = if rs.length ≤ 16777216 then (match datas rs with
    | some xs => .ok (shP (.tuple xs)) ρ
    | none => (match fnsOf rs with
      | some is => .ok (.sh (.fns is)) ρ
      | none => .bad)) else .bad := rfl
@[simp] theorem lstE_eq (rs : List RV) (ρ : Env) : lstE rs ρ = if rs.length ≤ 16777216 then (match datas rs with
    | some xs => .ok (.fr (.d (.list xs))) ρ
    | none => .bad) else .bad := rfl
@[simp] theorem lstR_list (x : List P) (ρ : Env) : lstR (.sh (.d (.list x))) ρ = .ok (.fr (.d (.list x))) ρ := rfl
@[simp] theorem lstR_listF (x : List P) (ρ : Env) : lstR (.fr (.d (.list x))) ρ = .ok (.fr (.d (.list x))) ρ := rfl
@[simp] theorem lstR_tuple (x : List P) (ρ : Env) : lstR (.sh (.d (.tuple x))) ρ = .ok (.fr (.d (.list x))) ρ := rfl
@[simp] theorem lstR_fz (x : List Int) (ρ : Env) : lstR (.sh (.fz x)) ρ = .ok (.fr (.d (.list (x.map PyData.int)))) ρ := rfl
/-! calls -/
@[simp] theorem argsOf_nil (ρ : Env) : argsOf ρ [] = some [] := rfl
@[simp] theorem argsOf_sh (ρ : Env) (x : D) (r : List RV) : argsOf ρ (.sh x :: r) = (argsOf ρ r).map (.sh x :: ·) := rfl
@[simp] theorem argsOf_fr (ρ : Env) (x : D) (r : List RV) : argsOf ρ (.fr x :: r) = (argsOf ρ r).map (.sh x :: ·) := rfl
@[simp] theorem argsOf_br (ρ : Env) (j : Nat) (r : List RV) : argsOf ρ (.br j :: r) = match ρ[j]? with
    | some (.own _ x) => (argsOf ρ r).map (.ln x :: ·)
    | _ => none := rfl
@[simp] theorem lents_nil : lents [] = [] := rfl
@[simp] theorem lents_sh (x : D) (r : List RV) : lents (.sh x :: r) = lents r := rfl
@[simp] theorem lents_fr (x : D) (r : List RV) : lents (.fr x :: r) = lents r := rfl
@[simp] theorem lents_br (j : Nat) (r : List RV) : lents (.br j :: r) = j :: lents r := rfl
@[simp] theorem putBk_nil (b : List (Option D)) (ρ : Env) : putBk [] b ρ = ρ := rfl
@[simp] theorem putBk_sh (x : D) (o : Option D) (r : List RV) (b : List (Option D)) (ρ : Env) : putBk (.sh x :: r) (o :: b) ρ = putBk r b ρ := rfl
@[simp] theorem putBk_fr (x : D) (o : Option D) (r : List RV) (b : List (Option D)) (ρ : Env) : putBk (.fr x :: r) (o :: b) ρ = putBk r b ρ := rfl
@[simp] theorem putBk_br (j : Nat) (x : D) (r : List RV) (b : List (Option D)) (ρ : Env) : putBk (.br j :: r) (some x :: b) ρ = putBk r b (match ρ[j]? with
    | some (.own l _) => ρ.set j (.own l x)
    | _ => ρ) := rfl
@[simp] theorem callE_eq (Φ : Fs) (f : Nat) (rs : List RV) (ρ : Env) : callE Φ f rs ρ =
  if (lents rs).Nodup then (match argsOf ρ rs with
    | some as => (match Φ f as with
      | .ok x fr bk => .ok (if fr then .fr x else .sh x) (putBk rs bk ρ)
      | .ex e bk => .ex e (putBk rs bk ρ)
      | .bad => .bad)
    | none => .bad) else .bad := rfl
@[simp] theorem wipeE_nil (ρ : Env) : wipeE ρ [] = ρ := rfl
@[simp] theorem wipeE_cons (ρ : Env) (v : Nat) (vs : List Nat) : wipeE ρ (v :: vs) = (wipeE ρ vs).set v .un := rfl
@[simp] theorem backE_nil (ρ0 ρ : Env) : backE ρ0 ρ [] = ρ := rfl
@[simp] theorem backE_cons (ρ0 ρ : Env) (v : Nat) (vs : List Nat) : backE ρ0 ρ (v :: vs) = (backE ρ0 ρ vs).set v (ρ0.getD v .un) := rfl
/-- a slot that may be written anew -/
def freeS : Sl → Bool
  | .own true _ => false
  | _ => true
def freeO : Option Sl → Bool
  | some s => freeS s
  | none => false
@[simp] theorem freeO_some (s : Sl) : freeO (some s) = freeS s := rfl
@[simp] theorem freeO_none : freeO none = false := rfl
@[simp] theorem freeS_un : freeS .un = true := rfl
@[simp] theorem freeS_val (x : D) : freeS (.val x) = true := rfl
@[simp] theorem freeS_own (b : Bool) (x : D) : freeS (.own b x) = !b := by cases b <;> rfl
theorem free_ite {α : Type} (o : Option Sl) (a : Option α) : (match o with
    | some (.own true _) => none
    | none => none
    | some _ => a) = if freeO o then a else none := by
  cases o with
  | none => rfl
  | some s => cases s with
    | own b x => cases b <;> rfl
    | _ => rfl
theorem setTg_nm0 (i : Nat) (x : Str) (v : D) (ρ : Env) : setTg (.nm i x) v ρ = match ρ[i]? with
    | some (.own true _) => none
    | some _ => some (ρ.set i (.val v))
    | none => none := rfl
@[simp] theorem setTg_nm (i : Nat) (x : Str) (v : D) (ρ : Env) : setTg (.nm i x) v ρ = if freeO ρ[i]? then some (ρ.set i (.val v)) else none := by
  rw [setTg_nm0]
  cases ρ[i]? with
  | none => rfl
  | some s => cases s with
    | own b x => cases b <;> rfl
    | _ => rfl
@[simp] theorem setTg_tp (ts : List (Nat × Str)) (xs : List P) (ρ : Env) : setTg (.tp ts) (.d (.tuple xs)) ρ = setN ts xs ρ := rfl
@[simp] theorem setN_nil (ρ : Env) : setN [] [] ρ = some ρ := rfl
@[simp] theorem setN_cons (i : Nat) (x : Str) (r : List (Nat × Str)) (v : P) (vs : List P) (ρ : Env) : setN ((i, x) :: r) (v :: vs) ρ = if freeO ρ[i]? then setN r vs (ρ.set i (.val (.d v))) else none := by
  show (match ρ[i]? with
    | some (.own true _) => none
    | some _ => setN r vs (ρ.set i (.val (.d v)))
    | none => none) = _
  cases ρ[i]? with
  | none => rfl
  | some s => cases s with
    | own b x => cases b <;> rfl
    | _ => rfl
@[simp] theorem seqI_list (x : List P) (ρ : Env) : seqI (.sh (.d (.list x))) ρ = .ok (x.map .d) ρ := rfl
@[simp] theorem seqI_listF (x : List P) (ρ : Env) : seqI (.fr (.d (.list x))) ρ = .ok (x.map .d) ρ := rfl
@[simp] theorem seqI_tuple (x : List P) (ρ : Env) : seqI (.sh (.d (.tuple x))) ρ = .ok (x.map .d) ρ := rfl
@[simp] theorem seqI_fns (x : List Nat) (ρ : Env) : seqI (.sh (.fns x)) ρ = .ok (x.map .fn) ρ := rfl
@[simp] theorem rngI_int (a b : Int) (ρ : Env) : rngI (.sh (.d (.int a))) (.sh (.d (.int b))) ρ = if smallR a && smallR b && decide ((b - a).toNat ≤ 16777216) then .ok (rngL a b) ρ else .bad := rfl
@[simp] theorem zipI_tt (x y : List P) (ρ : Env) : zipI (.sh (.d (.tuple x))) (.sh (.d (.tuple y))) ρ = .ok (zipL x y) ρ := rfl
@[simp] theorem zipI_ll (x y : List P) (ρ : Env) : zipI (.sh (.d (.list x))) (.sh (.d (.list y))) ρ = .ok (zipL x y) ρ := rfl
@[simp] theorem zipI_lF (x y : List P) (ρ : Env) : zipI (.sh (.d (.list x))) (.fr (.d (.list y))) ρ = .ok (zipL x y) ρ := rfl
@[simp] theorem zipI_Fl (x y : List P) (ρ : Env) : zipI (.fr (.d (.list x))) (.sh (.d (.list y))) ρ = .ok (zipL x y) ρ := rfl
@[simp] theorem zipI_FF (x y : List P) (ρ : Env) : zipI (.fr (.d (.list x))) (.fr (.d (.list y))) ρ = .ok (zipL x y) ρ := rfl
@[simp] theorem enumI_l (x : List P) (ρ : Env) : enumI (.sh (.d (.list x))) ρ = .ok (enumL 0 x) ρ := rfl
@[simp] theorem enumI_F (x : List P) (ρ : Env) : enumI (.fr (.d (.list x))) ρ = .ok (enumL 0 x) ρ := rfl
@[simp] theorem enumI_t (x : List P) (ρ : Env) : enumI (.sh (.d (.tuple x))) ρ = .ok (enumL 0 x) ρ := rfl
@[simp] theorem toI_sh (i : Int) (ρ : Env) : toI (.sh (.d (.int i))) ρ = some i := rfl
@[simp] theorem evB_one (o : Bool) (p : Pr) (ρ : Env) : evB o [p] ρ = p.v ρ := rfl
@[simp] theorem evB_cons (o : Bool) (p q : Pr) (ps : List Pr) (ρ : Env) : evB o (p :: q :: ps) ρ = (p.v ρ).bind fun r ρ1 => (truR r ρ1).bind fun b ρ2 => if b == o then .ok r ρ2 else evB o (q :: ps) ρ2 := rfl
@[simp] theorem etB_one (o : Bool) (p : Pr) (ρ : Env) : etB o [p] ρ = p.t ρ := rfl
@[simp] theorem etB_cons (o : Bool) (p q : Pr) (ps : List Pr) (ρ : Env) : etB o (p :: q :: ps) ρ = (p.t ρ).bind fun b ρ1 => if b == o then .ok b ρ1 else etB o (q :: ps) ρ1 := rfl
@[simp] theorem evsL_nil (ρ : Env) : evsL [] ρ = .ok [] ρ := rfl
@[simp] theorem evsL_cons (p : Pr) (ps : List Pr) (ρ : Env) : evsL (p :: ps) ρ = (p.v ρ).bind fun r ρ1 => (evsL ps ρ1).bind fun rs ρ2 => .ok (r :: rs) ρ2 := rfl
@[simp] theorem ofV_v (f : Env → R RV) : (ofV f).v = f := rfl
@[simp] theorem ofV_t (f : Env → R RV) (ρ : Env) : (ofV f).t ρ = (f ρ).bind truR := rfl
@[simp] theorem ofT_v (f : Env → R Bool) (ρ : Env) : (ofT f).v ρ = (f ρ).bind fun b ρ1 => .ok (shP (.bool b)) ρ1 := rfl
@[simp] theorem ofT_t (f : Env → R Bool) : (ofT f).t = f := rfl
section
variable (Φ : Fs)
@[simp] theorem ev_var (i : Nat) (x : Str) : ev Φ (.var i x) = ofV (varE i) := rfl
@[simp] theorem ev_cst (c : P) : ev Φ (.cst c) = ofV fun ρ => .ok (shP c) ρ := rfl
@[simp] theorem ev_fn (f : Nat) : ev Φ (.fn f) = ofV fun ρ => .ok (.sh (.fn f)) ρ := rfl
@[simp] theorem ev_glob (x : Str) (c : P) : ev Φ (.glob x c) = ofV fun ρ => .ok (shP c) ρ := rfl
@[simp] theorem ev_bin (op : BOp) (a b : Tm) : ev Φ (.bin op a b) = ofV fun ρ => ((ev Φ a).v ρ).bind fun r ρ1 => ((ev Φ b).v ρ1).bind fun s ρ2 => bi2 true op.f r s ρ2 := rfl
@[simp] theorem ev_neg (a : Tm) : ev Φ (.neg a) = ofV fun ρ => ((ev Φ a).v ρ).bind fun r ρ1 => un false negP r ρ1 := rfl
@[simp] theorem ev_not (a : Tm) : ev Φ (.notE a) = ofT fun ρ => ((ev Φ a).t ρ).bind fun b ρ1 => .ok (!b) ρ1 := rfl
@[simp] theorem ev_bop (o : Bool) (ts : Tms) : ev Φ (.bop o ts) = ⟨evB o (evl Φ ts), etB o (evl Φ ts)⟩ := rfl
@[simp] theorem ev_cmp (op : COp) (a b : Tm) : ev Φ (.cmp op a b) = ofV fun ρ => ((ev Φ a).v ρ).bind fun r ρ1 => ((ev Φ b).v ρ1).bind fun s ρ2 => cm2 op.f r s ρ2 := rfl
@[simp] theorem ev_chain (op op' : COp) (a b c : Tm) : ev Φ (.chain op op' a b c) = ofV (chainE op op' (ev Φ a).v (ev Φ b).v (ev Φ c).v) := rfl
@[simp] theorem ev_ife (t a b : Tm) : ev Φ (.ife t a b) = ofV fun ρ => ((ev Φ t).t ρ).bind fun c ρ1 => if c then (ev Φ a).v ρ1 else (ev Φ b).v ρ1 := rfl
@[simp] theorem ev_tup (ts : Tms) : ev Φ (.tup ts) = ofV fun ρ => (evsL (evl Φ ts) ρ).bind tupE := rfl
@[simp] theorem ev_lst (ts : Tms) : ev Φ (.lst ts) = ofV fun ρ => (evsL (evl Φ ts) ρ).bind lstE := rfl
@[simp] theorem ev_ix (a b : Tm) : ev Φ (.ix a b) = ofV fun ρ => ((ev Φ a).v ρ).bind fun r ρ1 => ((ev Φ b).v ρ1).bind fun s ρ2 => bi2 false ixP r s ρ2 := rfl
@[simp] theorem ev_sl (a : Tm) (lo hi : To) : ev Φ (.sl a lo hi) = ofV fun ρ => ((ev Φ a).v ρ).bind fun r ρ1 => (evo Φ lo ρ1).bind fun l ρ2 => (evo Φ hi ρ2).bind fun h ρ3 => un true (cutP l h) r ρ3 := rfl
@[simp] theorem ev_rev (a : Tm) : ev Φ (.rev a) = ofV fun ρ => ((ev Φ a).v ρ).bind fun r ρ1 => un true revP r ρ1 := rfl
@[simp] theorem ev_call (f : Nat) (ts : Tms) : ev Φ (.call f ts) = ofV fun ρ => (evsL (evl Φ ts) ρ).bind (callE Φ f) := rfl
theorem ev_bi (b : Bi) (a : Tm) : ev Φ (.bi b a) = ofV fun ρ => ((ev Φ a).v ρ).bind (if b = .list then lstR else un false b.f) := rfl
@[simp] theorem ev_list (a : Tm) : ev Φ (.bi .list a) = ofV fun ρ => ((ev Φ a).v ρ).bind lstR := rfl
@[simp] theorem ev_len (a : Tm) : ev Φ (.bi .len a) = ofV fun ρ => ((ev Φ a).v ρ).bind (un false lenP) := rfl
@[simp] theorem ev_abs (a : Tm) : ev Φ (.bi .abs a) = ofV fun ρ => ((ev Φ a).v ρ).bind (un false absP) := rfl
@[simp] theorem ev_int (a : Tm) : ev Φ (.bi .int a) = ofV fun ρ => ((ev Φ a).v ρ).bind (un false intP) := rfl
@[simp] theorem ev_all (a : Tm) : ev Φ (.bi .all a) = ofV fun ρ => ((ev Φ a).v ρ).bind (un false allP) := rfl
@[simp] theorem ev_any (a : Tm) : ev Φ (.bi .any a) = ofV fun ρ => ((ev Φ a).v ρ).bind (un false anyP) := rfl
@[simp] theorem ev_tuple (a : Tm) : ev Φ (.bi .tuple a) = ofV fun ρ => ((ev Φ a).v ρ).bind (un false tupP) := rfl
@[simp] theorem ev_sum (a : Tm) : ev Φ (.bi .sum a) = ofV fun ρ => ((ev Φ a).v ρ).bind (un false sumP) := rfl
@[simp] theorem ev_str (a : Tm) : ev Φ (.bi .str a) = ofV fun ρ => ((ev Φ a).v ρ).bind (un false strP) := rfl
@[simp] theorem ev_sorted (a : Tm) : ev Φ (.bi .sorted a) = ofV fun ρ => ((ev Φ a).v ρ).bind (un false sortedP) := rfl
@[simp] theorem ev_max (a : Tm) : ev Φ (.bi .max a) = ofV fun ρ => ((ev Φ a).v ρ).bind (un false maxP) := rfl
@[simp] theorem ev_min (a : Tm) : ev Φ (.bi .min a) = ofV fun ρ => ((ev Φ a).v ρ).bind (un false minP) := rfl
@[simp] theorem ev_mx (m : Bool) (a b : Tm) : ev Φ (.mx m a b) = ofV fun ρ => ((ev Φ a).v ρ).bind fun r ρ1 => ((ev Φ b).v ρ1).bind fun s ρ2 => bi2 false (mxP m) r s ρ2 := rfl
@[simp] theorem ev_idx (a b : Tm) : ev Φ (.idx a b) = ofV fun ρ => ((ev Φ a).v ρ).bind fun r ρ1 => match derefP ρ1 r with
    | some (.list _) => ((ev Φ b).v ρ1).bind fun s ρ2 => bi2 false idxP r s ρ2
    | _ => .bad := rfl
@[simp] theorem mxP_max (i j : Int) : mxP true (.int i) (.int j) = some (.int (if j > i then j else i)) := rfl
@[simp] theorem mxP_min (i j : Int) : mxP false (.int i) (.int j) = some (.int (if j < i then j else i)) := rfl
@[simp] theorem ev_isi (T : Ty) (a : Tm) : ev Φ (.bi (.isi T) a) = ofV fun ρ => ((ev Φ a).v ρ).bind (un false fun x => some (.bool (isiP T x))) := rfl
@[simp] theorem ev_comp (own : List (Str × Nat)) (tg : Tg) (it : Tit) (c : To) (e : Tm) : ev Φ (.comp own tg it c e) = ofV fun ρ => (evi Φ it ρ).bind fun items ρ1 => compE (own.map (·.2)) tg (etc Φ c) (ev Φ e).v items ρ1 := rfl
@[simp] theorem evl_nil : evl Φ .nil = [] := rfl
@[simp] theorem evl_cons (t : Tm) (ts : Tms) : evl Φ (.cons t ts) = ev Φ t :: evl Φ ts := rfl
@[simp] theorem evo_no (ρ : Env) : evo Φ .no ρ = .ok none ρ := rfl
@[simp] theorem evo_yes (t : Tm) (ρ : Env) : evo Φ (.yes t) ρ = ((ev Φ t).v ρ).bind fun r ρ1 => match toI r ρ1 with
    | some i => .ok (some i) ρ1
    | none => .bad := rfl
@[simp] theorem etc_no (ρ : Env) : etc Φ .no ρ = .ok true ρ := rfl
@[simp] theorem etc_yes (t : Tm) : etc Φ (.yes t) = (ev Φ t).t := rfl
@[simp] theorem evi_seq (t : Tm) (ρ : Env) : evi Φ (.seq t) ρ = ((ev Φ t).v ρ).bind seqI := rfl
@[simp] theorem evi_rng (t : Tm) (ρ : Env) : evi Φ (.rng t) ρ = ((ev Φ t).v ρ).bind fun r ρ1 => rngI (shP (.int 0)) r ρ1 := rfl
@[simp] theorem evi_rng2 (a b : Tm) (ρ : Env) : evi Φ (.rng2 a b) ρ = ((ev Φ a).v ρ).bind fun r ρ1 => ((ev Φ b).v ρ1).bind fun s ρ2 => rngI r s ρ2 := rfl
@[simp] theorem evi_zip (a b : Tm) (ρ : Env) : evi Φ (.zip a b) ρ = ((ev Φ a).v ρ).bind fun r ρ1 => ((ev Φ b).v ρ1).bind fun s ρ2 => zipI r s ρ2 := rfl
@[simp] theorem evi_enum (t : Tm) (ρ : Env) : evi Φ (.enum t) ρ = ((ev Φ t).v ρ).bind enumI := rfl
/-! statements -/
@[simp] theorem nxO_some (ρ : Env) : nxO (some ρ) = .nx ρ := rfl
@[simp] theorem nxO_none : nxO none = .bad := rfl
@[simp] theorem putR_sh (i : Nat) (x : D) (ρ : Env) : putR i (.sh x) ρ = if freeO ρ[i]? then some (ρ.set i (.val x)) else none := by
  unfold putR
  cases ρ[i]? with
  | none => rfl
  | some s => cases s with
    | own b x => cases b <;> rfl
    | _ => rfl
@[simp] theorem putR_fr (i : Nat) (x : D) (ρ : Env) : putR i (.fr x) ρ = if freeO ρ[i]? then some (ρ.set i (.own false x)) else none := by
  unfold putR
  cases ρ[i]? with
  | none => rfl
  | some s => cases s with
    | own b x => cases b <;> rfl
    | _ => rfl
@[simp] theorem putRs_nil (ρ : Env) : putRs [] [] ρ = some ρ := rfl
@[simp] theorem putRs_cons (i : Nat) (x : Str) (is : List (Nat × Str)) (r : RV) (rs : List RV) (ρ : Env) : putRs ((i, x) :: is) (r :: rs) ρ = (putR i r ρ).bind (putRs is rs) := rfl
@[simp] theorem shD_sh (x : D) : shD (.sh x) = some x := rfl
@[simp] theorem shD_fr (x : D) : shD (.fr x) = some x := rfl
@[simp] theorem appE_sh (i : Nat) (y : P) (ρ : Env) : appE i (.sh (.d y)) ρ = match ρ[i]? with
  | some (.own l (.d (.list xs))) => if xs.length < 16777216 then some (ρ.set i (.own l (.d (.list (xs ++ [y]))))) else none
  | _ => none := by
  show (match some [y], ρ[i]? with
    | some [y], some (.own l (.d (.list xs))) => if xs.length < 16777216 then some (ρ.set i (.own l (.d (.list (xs ++ [y]))))) else none
    | _, _ => none) = _
  rcases ρ[i]? with _ | _ | _ | ⟨l, x⟩ <;> first | rfl | (rcases x with x | _ | _ | _ | _ <;> first | rfl | (cases x <;> rfl))
@[simp] theorem appE_fr (i : Nat) (y : P) (ρ : Env) : appE i (.fr (.d y)) ρ = match ρ[i]? with
  | some (.own l (.d (.list xs))) => if xs.length < 16777216 then some (ρ.set i (.own l (.d (.list (xs ++ [y]))))) else none
  | _ => none := by
  show (match some [y], ρ[i]? with
    | some [y], some (.own l (.d (.list xs))) => if xs.length < 16777216 then some (ρ.set i (.own l (.d (.list (xs ++ [y]))))) else none
    | _, _ => none) = _
  rcases ρ[i]? with _ | _ | _ | ⟨l, x⟩ <;> first | rfl | (rcases x with x | _ | _ | _ | _ <;> first | rfl | (cases x <;> rfl))
@[simp] theorem ixSet_sh (i : Nat) (j : Int) (y : P) (ρ : Env) : ixSet i (.sh (.d (.int j))) (.sh (.d y)) ρ = match ρ[i]? with
  | some (.own l (.d (.list xs))) => (match ixN xs.length j with
    | some n => some (ρ.set i (.own l (.d (.list (xs.set n y)))))
    | none => none)
  | _ => none := by
  show (match some [PyData.int j], some [y], ρ[i]? with
    | some [PyData.int j], some [y], some (.own l (.d (.list xs))) => (match ixN xs.length j with
      | some n => some (ρ.set i (.own l (.d (.list (xs.set n y)))))
      | none => none)
    | _, _, _ => none) = _
  rcases ρ[i]? with _ | _ | _ | ⟨l, x⟩ <;> first | rfl | (rcases x with x | _ | _ | _ | _ <;> first | rfl | (cases x <;> rfl))
@[simp] theorem extE_eq (i : Nat) (r : RV) (ρ : Env) : extE i r ρ = match derefP ρ r, ρ[i]? with
  | some (.list ys), some (.own l (.d (.list xs))) => if xs.length + ys.length ≤ 16777216 then some (ρ.set i (.own l (.d (.list (xs ++ ys))))) else none
  | _, _ => none := rfl
@[simp] theorem augE_eq (i : Nat) (sub : Bool) (a : Int) (r : RV) (ρ : Env) : augE i sub a r ρ = match derefP ρ r with
  | some (.int b) => some (ρ.set i (.val (.d (.int (if sub then a - b else a + b)))))
  | _ => none := rfl
@[simp] theorem frzE_eq (i : Nat) (ρ : Env) : frzE i ρ = match ρ[i]? with
  | some (.own false x) => some (ρ.set i (.val x))
  | some (.val _) => some ρ
  | _ => none := rfl
@[simp] theorem sv_set (i : Nat) (x : Str) (e : Tm) (ρ : Env) : sv Φ (.set i x e) ρ = sOf ((ev Φ e).v ρ) fun r ρ1 => nxO (putR i r ρ1) := rfl
@[simp] theorem sv_setT (tg : Tg) (e : Tm) (ρ : Env) : sv Φ (.setT tg e) ρ = sOf ((ev Φ e).v ρ) fun r ρ1 => match shD r with
    | some x => nxO (setTg tg x ρ1)
    | none => .bad := rfl
@[simp] theorem sv_setP (is : List (Nat × Str)) (es : Tms) (ρ : Env) : sv Φ (.setP is es) ρ = sOf (evsL (evl Φ es) ρ) fun rs ρ1 => nxO (putRs is rs ρ1) := rfl
@[simp] theorem sv_setIx (i : Nat) (x : Str) (k e : Tm) (ρ : Env) : sv Φ (.setIx i x k e) ρ = sOf ((ev Φ e).v ρ) fun r ρ1 => match ρ1[i]? with
    | some (.own _ (.d (.list _))) => sOf ((ev Φ k).v ρ1) fun k ρ2 => nxO (ixSet i k r ρ2)
    | _ => .bad := rfl
@[simp] theorem sv_aug (i : Nat) (x : Str) (sub : Bool) (e : Tm) (ρ : Env) : sv Φ (.aug i x sub e) ρ = match ρ[i]? with
    | some (.val (.d (.int a))) => sOf ((ev Φ e).v ρ) fun r ρ1 => nxO (augE i sub a r ρ1)
    | some (.own _ (.d (.list _))) => if sub then .bad else sOf ((ev Φ e).v ρ) fun r ρ1 => nxO (extE i r ρ1)
    | _ => .bad := rfl
@[simp] theorem sv_app (i : Nat) (x : Str) (e : Tm) (ρ : Env) : sv Φ (.app i x e) ρ = match ρ[i]? with
    | some (.own _ (.d (.list _))) => sOf ((ev Φ e).v ρ) fun r ρ1 => nxO (appE i r ρ1)
    | _ => .bad := rfl
@[simp] theorem sv_expr (e : Tm) (ρ : Env) : sv Φ (.expr e) ρ = sOf ((ev Φ e).v ρ) fun _ ρ1 => .nx ρ1 := rfl
@[simp] theorem sv_ret (e : Tm) (ρ : Env) : sv Φ (.ret e) ρ = sOf ((ev Φ e).v ρ) fun r ρ1 => .rt r ρ1 := rfl
@[simp] theorem sv_ife (c : Tm) (a b : Tss) (ρ : Env) : sv Φ (.ife c a b) ρ = sOf ((ev Φ c).t ρ) fun t ρ1 => if t then svs Φ a ρ1 else svs Φ b ρ1 := rfl
@[simp] theorem sv_for (tg : Tg) (it : Tit) (b : Tss) (ρ : Env) : sv Φ (.forS tg it b) ρ = sOf (evi Φ it ρ) fun l ρ1 => forL tg (svs Φ b) l ρ1 := rfl
@[simp] theorem sv_whl (n : Nat) (c : Tm) (b : Tss) (ρ : Env) : sv Φ (.whl n c b) ρ = whlL (ev Φ c).t (svs Φ b) n ρ := rfl
@[simp] theorem sv_raise (c : Nat) (ρ : Env) : sv Φ (.raise c) ρ = .ex ⟨c, []⟩ ρ := rfl
@[simp] theorem sv_pass (ρ : Env) : sv Φ .pass ρ = .nx ρ := rfl
@[simp] theorem sv_brk (ρ : Env) : sv Φ .brk ρ = .bk ρ := rfl
@[simp] theorem sv_cont (ρ : Env) : sv Φ .cont ρ = .ct ρ := rfl
/-- what follows a statement -/
def seqS (r : SR) (k : Env → SR) : SR := match r with
  | .nx ρ1 => k ρ1
  | r => r
@[simp] theorem seqS_nx (ρ : Env) (k : Env → SR) : seqS (.nx ρ) k = k ρ := rfl
@[simp] theorem seqS_rt (r : RV) (ρ : Env) (k : Env → SR) : seqS (.rt r ρ) k = .rt r ρ := rfl
@[simp] theorem seqS_ex (e : Ex) (ρ : Env) (k : Env → SR) : seqS (.ex e ρ) k = .ex e ρ := rfl
@[simp] theorem seqS_bk (ρ : Env) (k : Env → SR) : seqS (.bk ρ) k = .bk ρ := rfl
@[simp] theorem seqS_ct (ρ : Env) (k : Env → SR) : seqS (.ct ρ) k = .ct ρ := rfl
@[simp] theorem seqS_ite (c : Prop) [Decidable c] (a b : SR) (k : Env → SR) : seqS (if c then a else b) k = if c then seqS a k else seqS b k := by split <;> rfl
@[simp] theorem svs_nil (ρ : Env) : svs Φ .nil ρ = .nx ρ := rfl
@[simp] theorem svs_cons (t : Ts) (ts : Tss) (ρ : Env) : svs Φ (.cons t ts) ρ = seqS (sv Φ t ρ) (svs Φ ts) := by
  show (match sv Φ t ρ with
    | .nx ρ1 => svs Φ ts ρ1
    | r => r) = _
  cases sv Φ t ρ <;> rfl
@[simp] theorem svs_frz (i : Nat) (ts : Tss) (ρ : Env) : svs Φ (.frz i ts) ρ = match frzE i ρ with
    | some ρ1 => svs Φ ts ρ1
    | none => .bad := rfl
end
/-! ### calls -/
@[simp] theorem fin_nx (as : List Arg) (ρ : Env) : fin as (.nx ρ) = match bkOf ρ as 0 with
    | some bk => .ok (.d .none) false bk
    | none => .bad := rfl
@[simp] theorem fin_rt (as : List Arg) (r : RV) (ρ : Env) : fin as (.rt r ρ) = match retR ρ r, bkOf ρ as 0 with
    | some (x, fr), some bk => .ok x fr bk
    | _, _ => .bad := rfl
@[simp] theorem fin_ex (as : List Arg) (e : Ex) (ρ : Env) : fin as (.ex e ρ) = match bkOf ρ as 0 with
    | some bk => .ex e bk
    | none => .bad := rfl
@[simp] theorem retR_sh (ρ : Env) (x : D) : retR ρ (.sh x) = some (x, false) := rfl
@[simp] theorem retR_fr (ρ : Env) (x : D) : retR ρ (.fr x) = some (x, true) := rfl
@[simp] theorem retR_br (ρ : Env) (j : Nat) : retR ρ (.br j) = match ρ[j]? with
    | some (.own false x) => some (x, true)
    | _ => none := rfl
@[simp] theorem bkOf_nil (ρ : Env) (i : Nat) : bkOf ρ [] i = some [] := rfl
@[simp] theorem bkOf_sh (ρ : Env) (x : D) (r : List Arg) (i : Nat) : bkOf ρ (.sh x :: r) i = (bkOf ρ r (i + 1)).map (none :: ·) := rfl
@[simp] theorem bkOf_ln (ρ : Env) (x : D) (r : List Arg) (i : Nat) : bkOf ρ (.ln x :: r) i = match ρ[i]? with
    | some (.own true x) => (bkOf ρ r (i + 1)).map (some x :: ·)
    | _ => none := rfl
@[simp] theorem slOf_sh (x : D) : slOf (.sh x) = .val x := rfl
@[simp] theorem slOf_ln (x : D) : slOf (.ln x) = .own true x := rfl
@[simp] theorem start_eq (n : Nat) (as : List Arg) : Mp.start n as = as.map slOf ++ List.replicate (n - as.length) .un := rfl
theorem runs_eq {T : Nat → Option Fd} {f : Nat} {d : Fd} (h : T f = some d) (k : Nat) (as : List Arg) : runs T (k + 1) f as = if as.length = d.np then fin as (svs (runs T k) d.body (Mp.start d.ns as)) else .bad := by
  show run1 T (runs T k) f as = _
  unfold run1
  rw [h]
/-! ### comprehensions -/
/-- each turn gives one thing and leaves the slots as they were -/
theorem comp_map {α : Type} {own : List Nat} {tg : Tg} {c : Env → R Bool} {e : Env → R RV} (enc : α → D) (keep : α → Bool) (f : α → P) {ρ : Env} :
    ∀ (xs : List α) (acc : List P), (∀ x ∈ xs, ∃ ρ1, setTg tg (enc x) ρ = some ρ1 ∧ ∃ ρ2, c ρ1 = .ok (keep x) ρ2 ∧ (keep x = false → wipeE ρ2 own = ρ) ∧ (keep x = true → ∃ r ρ3, e ρ2 = .ok r ρ3 ∧ datas [r] = some [f x] ∧ wipeE ρ3 own = ρ)) →
    compL own tg c e (xs.map enc) acc ρ = .ok (acc ++ (xs.filter keep).map f) ρ
  | [], acc, _ => by simp [compL]
  | x :: xs, acc, h => by
    obtain ⟨ρ1, h1, ρ2, h2, h3, h4⟩ := h x List.mem_cons_self
    have ih := comp_map (own := own) (tg := tg) (c := c) (e := e) enc keep f (ρ := ρ) xs
    rw [List.map_cons]
    unfold compL
    rw [h1]
    simp only
    rw [h2]
    cases hk : keep x with
    | true =>
      obtain ⟨r, ρ3, h5, h6, h7⟩ := h4 hk
      simp only [h5, h6, h7]
      rw [ih _ fun y hy => h y (List.mem_cons_of_mem _ hy), List.filter_cons_of_pos hk]
      simp
    | false =>
      simp only [h3 hk]
      rw [ih _ fun y hy => h y (List.mem_cons_of_mem _ hy), List.filter_cons_of_neg (by rw [hk]; exact Bool.false_ne_true)]
theorem forL_inv {tg : Tg} {b : Env → SR} (Inv : Nat → Env → Prop) : ∀ (xs : List D) (n : Nat) (ρ : Env), Inv n ρ → (∀ i x ρ, xs[i]? = some x → Inv (n + i) ρ → ∃ ρ1, setTg tg x ρ = some ρ1 ∧ ∃ ρ2, (b ρ1 = .nx ρ2 ∨ b ρ1 = .ct ρ2) ∧ Inv (n + i + 1) ρ2) →
    ∃ ρ', forL tg b xs ρ = .nx ρ' ∧ Inv (n + xs.length) ρ'
  | [], n, ρ, h0, _ => ⟨ρ, rfl, h0⟩
  | x :: xs, n, ρ, h0, hs => by
    obtain ⟨ρ1, h1, ρ2, h2, h3⟩ := hs 0 x ρ rfl h0
    obtain ⟨ρ', h4, h5⟩ := forL_inv (tg := tg) (b := b) Inv xs (n + 1) ρ2 h3 fun i y ρ hy hi => by
      obtain ⟨a, ha, c, hc, hd⟩ := hs (i + 1) y ρ (by simpa using hy) (by rw [show n + (i + 1) = n + 1 + i by omega]; exact hi)
      exact ⟨a, ha, c, hc, by rw [show n + 1 + i + 1 = n + (i + 1) + 1 by omega]; exact hd⟩
    refine ⟨ρ', ?_, by rw [List.length_cons, show n + (xs.length + 1) = n + 1 + xs.length by omega]; exact h5⟩
    unfold forL
    rw [h1]
    simp only
    rcases h2 with h2 | h2
    · rw [h2]; exact h4
    · rw [h2]; exact h4

/-- one turn: it gives y (none: left out) and leaves the slots as they were -/
def turnOk (own : List Nat) (tg : Tg) (c : Env → R Bool) (e : Env → R RV) (ρ : Env) (x : D) (y : Option P) : Prop := match setTg tg x ρ with
  | some ρ1 => (match c ρ1 with
    | .ok true ρ2 => (match e ρ2 with
      | .ok r ρ3 => datas [r] = y.map (fun z => [z]) ∧ y ≠ none ∧ wipeE ρ3 own = ρ
      | _ => False)
    | .ok false ρ2 => y = none ∧ wipeE ρ2 own = ρ
    | _ => False)
  | none => False
theorem compL_fm {α : Type} {own : List Nat} {tg : Tg} {c : Env → R Bool} {e : Env → R RV} (enc : α → D) (f : α → Option P) {ρ : Env} :
    ∀ (xs : List α) (acc : List P), (∀ x ∈ xs, turnOk own tg c e ρ (enc x) (f x)) → compL own tg c e (xs.map enc) acc ρ = .ok (acc ++ xs.filterMap f) ρ
  | [], acc, _ => by simp [compL]
  | x :: xs, acc, h => by
    have h0 := h x List.mem_cons_self
    have ih := compL_fm (own := own) (tg := tg) (c := c) (e := e) enc f (ρ := ρ) xs
    have ih' := fun acc => ih acc fun y hy => h y (List.mem_cons_of_mem _ hy)
    rw [List.map_cons]
    unfold compL
    unfold turnOk at h0
    cases e1 : setTg tg (enc x) ρ with
    | none => rw [e1] at h0; exact h0.elim
    | some ρ1 =>
      rw [e1] at h0
      simp only at h0 ⊢
      cases e2 : c ρ1 with
      | ex _ _ => rw [e2] at h0; exact h0.elim
      | bad => rw [e2] at h0; exact h0.elim
      | ok b ρ2 =>
        rw [e2] at h0
        cases b with
        | true =>
          simp only at h0 ⊢
          cases e3 : e ρ2 with
          | ex _ _ => rw [e3] at h0; exact h0.elim
          | bad => rw [e3] at h0; exact h0.elim
          | ok r ρ3 =>
            rw [e3] at h0
            obtain ⟨h1, h2, h3⟩ := h0
            cases ey : f x with
            | none => exact absurd ey h2
            | some z =>
              rw [ey] at h1
              have h1 : datas [r] = some [z] := h1
              simp only [h1, h3]
              rw [ih', List.filterMap_cons_some ey]
              simp
        | false =>
          obtain ⟨h1, h2⟩ := h0
          simp only [h2]
          rw [ih', List.filterMap_cons_none h1]
theorem compE_fm {α : Type} {own : List Nat} {tg : Tg} {c : Env → R Bool} {e : Env → R RV} (enc : α → D) (f : α → Option P) {ρ : Env} {xs : List α} (h : ∀ x ∈ xs, turnOk own tg c e (wipeE ρ own) (enc x) (f x)) :
    compE own tg c e (xs.map enc) ρ = .ok (.fr (.d (.list (xs.filterMap f)))) (backE ρ (wipeE ρ own) own) := by
  unfold compE
  rw [compL_fm enc f xs [] h]
  rfl
theorem compE_map {α : Type} {own : List Nat} {tg : Tg} {c : Env → R Bool} {e : Env → R RV} (enc : α → D) (f : α → P) {ρ : Env} {xs : List α} (h : ∀ x ∈ xs, turnOk own tg c e (wipeE ρ own) (enc x) (some (f x))) :
    compE own tg c e (xs.map enc) ρ = .ok (.fr (.d (.list (xs.map f)))) (backE ρ (wipeE ρ own) own) := by
  have := compE_fm enc (fun x => some (f x)) h
  rw [this]
  congr 4
  induction xs with
  | nil => rfl
  | cons x xs ih => simp
/-- turns that change the slots -/
theorem compL_iv {α : Type} {own : List Nat} {tg : Tg} {c : Env → R Bool} {e : Env → R RV} (enc : α → D) : ∀ (xs : List α) (acc : List P) (ρ : Env) (Iv : List α → List P → Env → Prop), Iv [] acc ρ →
    (∀ done x rest acc ρ, xs = done ++ x :: rest → Iv done acc ρ → ∃ ρ1, setTg tg (enc x) ρ = some ρ1 ∧ ((∃ ρ2 r ρ3 y, c ρ1 = .ok true ρ2 ∧ e ρ2 = .ok r ρ3 ∧ datas [r] = some [y] ∧ Iv (done ++ [x]) (acc ++ [y]) (wipeE ρ3 own)) ∨ (∃ ρ2, c ρ1 = .ok false ρ2 ∧ Iv (done ++ [x]) acc (wipeE ρ2 own)))) →
    ∃ acc' ρ', compL own tg c e (xs.map enc) acc ρ = .ok acc' ρ' ∧ Iv xs acc' ρ'
  | [], acc, ρ, Iv, h0, _ => ⟨acc, ρ, by simp [compL], h0⟩
  | x :: xs, acc, ρ, Iv, h0, hs => by
    obtain ⟨ρ1, h1, h2⟩ := hs [] x xs acc ρ rfl h0
    rw [List.map_cons]
    rcases h2 with ⟨ρ2, r, ρ3, y, h3, h4, h5, h6⟩ | ⟨ρ2, h3, h4⟩
    · obtain ⟨acc', ρ', g1, g2⟩ := compL_iv (own := own) (tg := tg) (c := c) (e := e) enc xs (acc ++ [y]) (wipeE ρ3 own) (fun d a ρ => Iv (x :: d) a ρ) h6 fun done z rest a ρ e hi => by
        obtain ⟨q1, q2, q3⟩ := hs (x :: done) z rest a ρ (by rw [e]; rfl) hi
        exact ⟨q1, q2, q3⟩
      refine ⟨acc', ρ', ?_, g2⟩
      unfold compL
      simp only [h1, h3, h4, h5]
      exact g1
    · obtain ⟨acc', ρ', g1, g2⟩ := compL_iv (own := own) (tg := tg) (c := c) (e := e) enc xs acc (wipeE ρ2 own) (fun d a ρ => Iv (x :: d) a ρ) h4 fun done z rest a ρ e hi => by
        obtain ⟨q1, q2, q3⟩ := hs (x :: done) z rest a ρ (by rw [e]; rfl) hi
        exact ⟨q1, q2, q3⟩
      refine ⟨acc', ρ', ?_, g2⟩
      unfold compL
      simp only [h1, h3]
      exact g1
theorem compE_iv {α : Type} {own : List Nat} {tg : Tg} {c : Env → R Bool} {e : Env → R RV} {ρ : Env} (enc : α → D) (xs : List α) (Iv : List α → List P → Env → Prop) (h0 : Iv [] [] (wipeE ρ own))
    (hs : ∀ done x rest acc ρ, xs = done ++ x :: rest → Iv done acc ρ → ∃ ρ1, setTg tg (enc x) ρ = some ρ1 ∧ ((∃ ρ2 r ρ3 y, c ρ1 = .ok true ρ2 ∧ e ρ2 = .ok r ρ3 ∧ datas [r] = some [y] ∧ Iv (done ++ [x]) (acc ++ [y]) (wipeE ρ3 own)) ∨ (∃ ρ2, c ρ1 = .ok false ρ2 ∧ Iv (done ++ [x]) acc (wipeE ρ2 own)))) :
    ∃ acc' ρ', compE own tg c e (xs.map enc) ρ = .ok (.fr (.d (.list acc'))) (backE ρ ρ' own) ∧ Iv xs acc' ρ' := by
  obtain ⟨acc, ρ', h1, h2⟩ := compL_iv (own := own) (tg := tg) (c := c) (e := e) enc xs [] (wipeE ρ own) Iv h0 hs
  refine ⟨acc, ρ', ?_, h2⟩
  unfold compE
  rw [h1]
end Mp

set_option maxRecDepth 100000
set_option maxHeartbeats 4000000
/-! Mq2: places, slices, lists. -/
namespace Mp
open PySem L2
@[simp] theorem ixP_t (xs : List P) (i : Int) : ixP (.tuple xs) (.int i) = atI xs i := rfl
@[simp] theorem ixP_l (xs : List P) (i : Int) : ixP (.list xs) (.int i) = atI xs i := rfl
theorem atI_nat {α : Type} (xs : List α) (n : Nat) : atI xs (n : Int) = xs[n]? := by
  unfold atI ixN
  by_cases h : n < xs.length
  · simp [h]
  · simp [h]
@[simp] theorem atI_0 {α : Type} (xs : List α) : atI xs 0 = xs[0]? := atI_nat xs 0
@[simp] theorem atI_1 {α : Type} (xs : List α) : atI xs 1 = xs[1]? := atI_nat xs 1
@[simp] theorem atI_2 {α : Type} (xs : List α) : atI xs 2 = xs[2]? := atI_nat xs 2
@[simp] theorem atI_3 {α : Type} (xs : List α) : atI xs 3 = xs[3]? := atI_nat xs 3
@[simp] theorem atI_4 {α : Type} (xs : List α) : atI xs 4 = xs[4]? := atI_nat xs 4
@[simp] theorem atI_cast {α : Type} (xs : List α) (n : Nat) : atI xs (n : Int) = xs[n]? := atI_nat xs n
theorem ixN_nat (n i : Nat) : ixN n (i : Int) = if i < n then some i else none := by
  unfold ixN
  by_cases h : i < n
  · simp [h]
  · simp [h]
@[simp] theorem ixN_0 (n : Nat) : ixN n 0 = if 0 < n then some 0 else none := ixN_nat n 0
@[simp] theorem ixN_1 (n : Nat) : ixN n 1 = if 1 < n then some 1 else none := ixN_nat n 1
@[simp] theorem cutP_t (lo hi : Option Int) (xs : List P) : cutP lo hi (.tuple xs) = some (.tuple (cutL xs lo hi)) := rfl
@[simp] theorem cutP_l (lo hi : Option Int) (xs : List P) : cutP lo hi (.list xs) = some (.list (cutL xs lo hi)) := rfl
@[simp] theorem revP_t (xs : List P) : revP (.tuple xs) = some (.tuple xs.reverse) := rfl
@[simp] theorem revP_l (xs : List P) : revP (.list xs) = some (.list xs.reverse) := rfl
theorem cutL_to {α : Type} (xs : List α) (n : Nat) : cutL xs none (some (n : Int)) = xs.take n := by
  unfold cutL
  rw [HT.sIx_none, HT.sIx_nat, List.drop_zero, Nat.sub_zero, Nat.min_comm]
  by_cases h : n ≤ xs.length
  · rw [Nat.min_eq_right h]
  · rw [Nat.min_eq_left (by omega), List.take_of_length_le (Nat.le_refl _), List.take_of_length_le (by omega)]
theorem cutL_from {α : Type} (xs : List α) (n : Nat) : cutL xs (some (n : Int)) none = xs.drop n := by
  unfold cutL
  rw [HT.sIx_none, HT.sIx_nat]
  by_cases h : n ≤ xs.length
  · rw [Nat.min_eq_left h, List.take_of_length_le (by rw [List.length_drop]; omega)]
  · rw [Nat.min_eq_right (by omega), List.drop_eq_nil_of_le (Nat.le_refl _), List.drop_eq_nil_of_le (by omega)]
    simp
@[simp] theorem cutL_toC {α : Type} (xs : List α) (n : Nat) : cutL xs none (some (n : Int)) = xs.take n := cutL_to xs n
@[simp] theorem cutL_fromC {α : Type} (xs : List α) (n : Nat) : cutL xs (some (n : Int)) none = xs.drop n := cutL_from xs n
@[simp] theorem cutL_fromS {α : Type} (xs : List α) (n : Nat) : cutL xs (some ((n : Int) + 1)) none = xs.drop (n + 1) := cutL_from xs (n + 1)
@[simp] theorem cutL_to1 {α : Type} (xs : List α) : cutL xs none (some 1) = xs.take 1 := cutL_to xs 1
@[simp] theorem cutL_from1 {α : Type} (xs : List α) : cutL xs (some 1) none = xs.drop 1 := cutL_from xs 1
theorem smallR_of {i : Int} (h : -1000000000000 ≤ i ∧ i ≤ 1000000000000) : smallR i = true := by
  unfold smallR
  simp [h.1, h.2]
@[simp] theorem smallR_0 : smallR 0 = true := rfl
theorem smallI_of {i : Int} (h : -18446744073709551616 < i ∧ i < 18446744073709551616) : smallI i = true := by
  unfold smallI
  simp [h.1, h.2]
theorem rngL_0 (n : Nat) : rngL 0 (n : Int) = (List.range n).map fun (i : Nat) => D.d (.int (i : Int)) := by
  unfold rngL
  rw [Int.sub_zero, Int.toNat_natCast]
  simp only [Int.zero_add]
theorem enumL_eq : ∀ (xs : List P) (n : Nat), enumL n xs = (List.range xs.length).filterMap fun i => (xs[i]?).map fun x => D.d (.tuple [.int ((n + i : Nat) : Int), x])
  | [], n => rfl
  | x :: xs, n => by
    unfold enumL
    rw [enumL_eq xs (n + 1), List.length_cons, List.range_succ_eq_map, List.filterMap_cons]
    simp only [List.getElem?_cons_zero, Option.map_some, List.filterMap_map]
    congr 1
    congr 1
    funext i
    simp [Function.comp]
    congr 1
    funext y
    congr 4
    omega
/-- forL over a range told by an accumulator -/
theorem forL_map {α : Type} {tg : Tg} {b : Env → SR} {enc : α → D} : ∀ (xs : List α) (ρ : Env) (Iv : List α → Env → Prop), Iv [] ρ → (∀ done x rest ρ, xs = done ++ x :: rest → Iv done ρ → ∃ ρ1, setTg tg (enc x) ρ = some ρ1 ∧ ∃ ρ2, (b ρ1 = .nx ρ2 ∨ b ρ1 = .ct ρ2) ∧ Iv (done ++ [x]) ρ2) →
    ∃ ρ', forL tg b (xs.map enc) ρ = .nx ρ' ∧ Iv xs ρ'
  | [], ρ, Iv, h0, _ => ⟨ρ, rfl, h0⟩
  | x :: xs, ρ, Iv, h0, hs => by
    obtain ⟨ρ1, h1, ρ2, h2, h3⟩ := hs [] x xs ρ rfl h0
    obtain ⟨ρ', h4, h5⟩ := forL_map (tg := tg) (b := b) (enc := enc) xs ρ2 (fun d ρ => Iv (x :: d) ρ) h3 fun done y rest ρ e hi => by
      obtain ⟨a, ha, c, hc, hd⟩ := hs (x :: done) y rest ρ (by rw [e]; rfl) hi
      exact ⟨a, ha, c, hc, hd⟩
    refine ⟨ρ', ?_, h5⟩
    rw [List.map_cons]
    unfold forL
    rw [h1]
    simp only
    rcases h2 with h2 | h2
    · rw [h2]; exact h4
    · rw [h2]; exact h4
theorem range_split {n : Nat} {done rest : List Nat} {x : Nat} (h : List.range n = done ++ x :: rest) : x = done.length ∧ x < n := by
  have h1 : (List.range n)[done.length]? = some x := by rw [h]; simp
  rw [List.getElem?_eq_some_iff] at h1
  obtain ⟨hl, h2⟩ := h1
  rw [List.getElem_range] at h2
  rw [List.length_range] at hl
  omega
/-- a slot that may be stored -/
def FreeS (s : Sl) : Prop := s = .un ∨ (∃ v, s = .val v) ∨ ∃ v, s = .own false v
theorem enumL_zip : ∀ (xs : List P) (n : Nat), enumL n xs = (xs.zipIdx n).map fun p => D.d (.tuple [.int (p.2 : Int), p.1])
  | [], n => rfl
  | x :: xs, n => by
    unfold enumL
    rw [enumL_zip xs (n + 1), List.zipIdx_cons, List.map_cons]
theorem enumL_map {α : Type} (f : α → P) (xs : List α) : enumL 0 (xs.map f) = xs.zipIdx.map fun p => D.d (.tuple [.int (p.2 : Int), f p.1]) := by
  rw [enumL_zip, List.zipIdx_map, List.map_map]
  rfl
theorem rngL_zip {α : Type} (xs : List α) : rngL 0 (xs.length : Int) = xs.zipIdx.map fun p => D.d (.int (p.2 : Int)) := by
  rw [rngL_0]
  have : List.range xs.length = xs.zipIdx.map Prod.snd := by rw [List.zipIdx_map_snd, List.range_eq_range']
  rw [this, List.map_map]
  rfl
theorem zip_split {α : Type} {xs : List α} {done rest : List (α × Nat)} {x : α} {i : Nat} (h : xs.zipIdx = done ++ (x, i) :: rest) : i = done.length ∧ xs[i]? = some x ∧ i < xs.length := by
  have h1 : xs.zipIdx[done.length]? = some (x, i) := by rw [h]; simp
  rw [List.getElem?_zipIdx] at h1
  obtain ⟨y, h2, h3⟩ := Option.map_eq_some_iff.mp h1
  simp at h3
  obtain ⟨rfl, rfl⟩ := h3
  exact ⟨rfl, h2, (List.getElem?_eq_some_iff.mp h2).1⟩
theorem zip_mem {α : Type} {xs : List α} {p : α × Nat} (h : p ∈ xs.zipIdx) : xs[p.2]? = some p.1 ∧ p.2 < xs.length := by
  have := List.mem_zipIdx_iff_getElem?.mp h
  exact ⟨this, (List.getElem?_eq_some_iff.mp this).1⟩
end Mp

set_option maxRecDepth 100000
set_option maxHeartbeats 400000
/-! Mq3: sorted. -/
namespace Mp
open PySem L2
@[simp] theorem Bi_sorted : Bi.f .sorted = sortedP := rfl
@[simp] theorem Bi_max : Bi.f .max = maxP := rfl
@[simp] theorem Bi_min : Bi.f .min = minP := rfl
@[simp] theorem sortedP_list (ds : List P) : sortedP (.list ds) = if sortOk ds then some (.list (sortP ds)) else none := rfl
@[simp] theorem mxP_int (m : Bool) (i j : Int) : mxP m (.int i) (.int j) = some (.int (if m then (if j > i then j else i) else (if j < i then j else i))) := rfl
/-- the order of data -/
abbrev dle (a b : P) : Bool := PySem.W.dataLe false (fun x => x) a b
theorem dle_TL : PySem.W.TotalLe dle := PySem.W.sortLe_total (PyProof.Rows.listOrd PyProof.Rows.itemOrd) false PySem.W.keyToks
theorem dle_tot (a b : P) : (dle a b || dle b a) = true := by
  rw [Bool.or_eq_true]
  exact dle_TL.total a b
theorem sortP_perm (ds : List P) : (sortP ds).Perm ds := by rw [sortP_eq]; exact List.mergeSort_perm _ _
theorem sortP_pw (ds : List P) : (sortP ds).Pairwise fun a b => dle a b = true := by rw [sortP_eq]; exact List.pairwise_mergeSort dle_TL.trans dle_tot ds
theorem sortP_map {α : Type} (enc : α → P) (le : α → α → Bool) (h : ∀ a b, le a b = dle (enc a) (enc b)) (xs : List α) : sortP (xs.map enc) = (xs.mergeSort le).map enc := by
  rw [sortP_eq]
  exact (List.map_mergeSort fun a _ b _ => h a b).symm
theorem dle_int (a b : Int) : dle (.int a) (.int b) = decide (a ≤ b) := by
  have := congrFun (congrFun (PySem.W.dataLe_eq false (fun x : P => x)) (.int a)) (.int b)
  unfold dle
  rw [this]
  simp [PySem.W.dataLt_int]
  by_cases h : a ≤ b <;> simp [h] <;> omega
theorem dle_tup (xs ys : List Int) : dle (.tuple (xs.map PyData.int)) (.tuple (ys.map PyData.int)) = !decide (ys < xs) := by
  have := congrFun (congrFun (PySem.W.dataLe_eq false (fun x : P => x)) (.tuple (xs.map PyData.int))) (.tuple (ys.map PyData.int))
  unfold dle
  rw [this, PySem.W.dataLt_tuple]
  show (!PySem.W.rowLt _ _) = _
  rw [PySem.W.dataLt_ints]
theorem depth_ints : ∀ xs : List Int, PyData.depthAll (xs.map PyData.int) = 0
  | [] => rfl
  | x :: xs => by
    show Nat.max 0 (PyData.depthAll (xs.map PyData.int)) = 0
    rw [depth_ints xs]
    rfl
theorem depthAll_le {n : Nat} : ∀ {ds : List P}, (∀ d ∈ ds, d.depth ≤ n) → PyData.depthAll ds ≤ n
  | [], _ => Nat.zero_le _
  | x :: ds, h => by
    show Nat.max x.depth (PyData.depthAll ds) ≤ n
    exact Nat.max_le.mpr ⟨h x List.mem_cons_self, depthAll_le fun d hd => h d (List.mem_cons_of_mem _ hd)⟩
theorem sortOk_of {ds : List P} (h1 : ∀ a ∈ ds, ∀ b ∈ ds, PySem.W.alike a b = true) (h2 : (∀ a ∈ ds, tupNE a = true) ∨ (∀ a ∈ ds, notNT a = true)) (h3 : ∀ a ∈ ds, a.depth ≤ 60) : sortOk ds = true := by
  unfold sortOk
  rw [Bool.and_eq_true, Bool.and_eq_true, Bool.or_eq_true, decide_eq_true_eq]
  refine ⟨⟨List.all_eq_true.mpr fun a ha => List.all_eq_true.mpr fun b hb => h1 a ha b hb, ?_⟩, depthAll_le h3⟩
  rcases h2 with h2 | h2
  · exact .inl (List.all_eq_true.mpr h2)
  · exact .inr (List.all_eq_true.mpr h2)
theorem sortOk_map {α : Type} (enc : α → P) (xs : List α) (h : ∀ a, ∃ n ns, enc a = .tuple ((n :: ns).map PyData.int)) : sortOk (xs.map enc) = true := by
  refine sortOk_of (fun a ha b hb => ?_) (.inl fun a ha => ?_) fun a ha => ?_
  · obtain ⟨x, _, rfl⟩ := List.mem_map.mp ha
    obtain ⟨y, _, rfl⟩ := List.mem_map.mp hb
    obtain ⟨n, ns, e⟩ := h x
    obtain ⟨m, ms, e'⟩ := h y
    rw [e, e']
    exact PySem.W.alike_ints (n :: ns) (m :: ms)
  · obtain ⟨x, _, rfl⟩ := List.mem_map.mp ha
    obtain ⟨n, ns, e⟩ := h x
    rw [e]
    rfl
  · obtain ⟨x, _, rfl⟩ := List.mem_map.mp ha
    obtain ⟨n, ns, e⟩ := h x
    rw [e]
    show PyData.depthAll ((n :: ns).map PyData.int) + 1 ≤ 60
    rw [depth_ints]
    decide
theorem sortOk_ints {α : Type} (f : α → Int) (xs : List α) : sortOk (xs.map fun x => .int (f x)) = true := by
  refine sortOk_of (fun a ha b hb => ?_) (.inr fun a ha => ?_) fun a ha => ?_
  · obtain ⟨x, _, rfl⟩ := List.mem_map.mp ha
    obtain ⟨y, _, rfl⟩ := List.mem_map.mp hb
    rfl
  · obtain ⟨x, _, rfl⟩ := List.mem_map.mp ha
    rfl
  · obtain ⟨x, _, rfl⟩ := List.mem_map.mp ha
    exact Nat.zero_le _
/-- the sorted list holds each sorted part -/
theorem sortP_sub {ds ys : List P} (h : ys.Pairwise fun a b => dle a b = true) (s : ys.Sublist ds) : ys.Sublist (sortP ds) := by rw [sortP_eq]; exact List.sublist_mergeSort dle_TL.trans dle_tot h s
/-- and what a test keeps of it is what the test keeps, if this is sorted -/
theorem sortP_filter (ds : List P) (q : P → Bool) (h : (ds.filter q).Pairwise fun a b => dle a b = true) : (sortP ds).filter q = ds.filter q := by
  have h1 : (ds.filter q).Sublist ((sortP ds).filter q) := by
    have := (sortP_sub h List.filter_sublist).filter q
    rwa [List.filter_filter, show (fun a => q a && q a) = q from funext fun a => Bool.and_self _] at this
  exact (h1.eq_of_length ((sortP_perm ds).filter q).length_eq.symm).symm
theorem fm_if {α β : Type} (p : α → Prop) [DecidablePred p] (f : α → β) : ∀ xs : List α, xs.filterMap (fun x => if p x then some (f x) else none) = (xs.filter fun x => decide (p x)).map f
  | [] => rfl
  | x :: xs => by
    by_cases h : p x <;> simp [h, fm_if p f xs]
end Mp

set_option maxRecDepth 100000
set_option maxHeartbeats 400000
/-! Mq4: slots by their places; loops; sorted by keys. -/
namespace Mp
open PySem L2
/-! ### slots -/
theorem set_get (ρ : Env) (i j : Nat) (s : Sl) : (ρ.set i s)[j]? = if i = j then (if j < ρ.length then some s else none) else ρ[j]? := by
  by_cases h : i = j
  · subst h
    by_cases hl : i < ρ.length
    · simp [hl]
    · simp [hl]
  · simp [h]
theorem backE_wipeE (ρ : Env) : ∀ own : List Nat, backE ρ (wipeE ρ own) own = ρ := fun own => by
  apply List.ext_getElem?
  intro i
  by_cases hi : i ∈ own
  · by_cases hl : i < ρ.length
    · rw [backE_in hi (by rw [wipeE_len]; exact hl) (wipeE_len _ _)]
    · rw [List.getElem?_eq_none (by rw [backE_len, wipeE_len]; omega), List.getElem?_eq_none (by omega)]
  · rw [backE_out hi, wipeE_out hi]
/-- a comprehension whose turns leave the slots -/
theorem comp_map' {α : Type} {own : List Nat} {tg : Tg} {c : Env → R Bool} {e : Env → R RV} (enc : α → D) (f : α → P) {ρ : Env} {xs : List α} (h : ∀ x ∈ xs, turnOk own tg c e (wipeE ρ own) (enc x) (some (f x))) :
    compE own tg c e (xs.map enc) ρ = .ok (.fr (.d (.list (xs.map f)))) ρ := by rw [compE_map enc f h, backE_wipeE]
theorem comp_fm' {α : Type} {own : List Nat} {tg : Tg} {c : Env → R Bool} {e : Env → R RV} (enc : α → D) (f : α → Option P) {ρ : Env} {xs : List α} (h : ∀ x ∈ xs, turnOk own tg c e (wipeE ρ own) (enc x) (f x)) :
    compE own tg c e (xs.map enc) ρ = .ok (.fr (.d (.list (xs.filterMap f)))) ρ := by rw [compE_fm enc f h, backE_wipeE]
theorem fm_filter {α β : Type} (p : α → Bool) (f : α → β) (xs : List α) : xs.filterMap (fun x => if p x then some (f x) else none) = (xs.filter p).map f := by
  induction xs with
  | nil => rfl
  | cons x xs ih => by_cases h : p x <;> simp [h, ih]
/-- a comprehension with a test -/
theorem comp_filter {α : Type} {own : List Nat} {tg : Tg} {c : Env → R Bool} {e : Env → R RV} (enc : α → D) (p : α → Bool) (f : α → P) {ρ : Env} {xs : List α} (h : ∀ x ∈ xs, turnOk own tg c e (wipeE ρ own) (enc x) (if p x then some (f x) else none)) :
    compE own tg c e (xs.map enc) ρ = .ok (.fr (.d (.list ((xs.filter p).map f)))) ρ := by rw [comp_fm' enc (fun x => if p x then some (f x) else none) h, fm_filter]
/-! ### loops -/
/-- a for whose turns keep G -/
theorem for_ok {tg : Tg} {b : Env → SR} (G : Env → Prop) : ∀ {xs : List D} {ρ : Env}, G ρ → (∀ x ∈ xs, ∀ ρ, G ρ → ∃ ρ1, setTg tg x ρ = some ρ1 ∧ ∃ ρ2, b ρ1 = .nx ρ2 ∧ G ρ2) → ∃ ρ', forL tg b xs ρ = .nx ρ' ∧ G ρ'
  | [], ρ, h, _ => ⟨ρ, rfl, h⟩
  | x :: xs, ρ, h, hs => by
    obtain ⟨ρ1, h1, ρ2, h2, h3⟩ := hs x List.mem_cons_self ρ h
    obtain ⟨ρ', h4, h5⟩ := for_ok G h3 fun y hy => hs y (List.mem_cons_of_mem _ hy)
    refine ⟨ρ', ?_, h5⟩
    unfold forL
    rw [h1]
    simp only
    rw [h2]
    exact h4
/-- a for by an invariant of what is done -/
theorem for_iv {α : Type} {tg : Tg} {b : Env → SR} (enc : α → D) (G : List α → Env → Prop) {xs : List α} {ρ : Env} (h0 : G [] ρ) (hs : ∀ done x rest ρ, xs = done ++ x :: rest → G done ρ → ∃ ρ1, setTg tg (enc x) ρ = some ρ1 ∧ ∃ ρ2, (b ρ1 = .nx ρ2 ∨ b ρ1 = .ct ρ2) ∧ G (done ++ [x]) ρ2) :
    ∃ ρ', forL tg b (xs.map enc) ρ = .nx ρ' ∧ G xs ρ' := forL_map xs ρ G h0 hs
/-- a while that makes n turns -/
theorem whl_iv {c : Env → R Bool} {b : Env → SR} (G : Nat → Env → Prop) (E : Env → Prop) : ∀ (n m : Nat) (ρ : Env), n < m → G n ρ → (∀ n ρ, G (n + 1) ρ → ∃ ρ1, c ρ = .ok true ρ1 ∧ ∃ ρ2, (b ρ1 = .nx ρ2 ∨ b ρ1 = .ct ρ2) ∧ G n ρ2) → (∀ ρ, G 0 ρ → ∃ ρ1, c ρ = .ok false ρ1 ∧ E ρ1) → ∃ ρ', whlL c b m ρ = .nx ρ' ∧ E ρ'
  | n, 0, ρ, h, _, _, _ => absurd h (Nat.not_lt_zero _)
  | 0, m + 1, ρ, _, g, _, hz => by
    obtain ⟨ρ1, h1, h2⟩ := hz ρ g
    refine ⟨ρ1, ?_, h2⟩
    unfold whlL
    rw [h1]
    rfl
  | n + 1, m + 1, ρ, h, g, hs, hz => by
    obtain ⟨ρ1, h1, ρ2, h2, h3⟩ := hs n ρ g
    obtain ⟨ρ', h4, h5⟩ := whl_iv G E n m ρ2 (by omega) h3 hs hz
    refine ⟨ρ', ?_, h5⟩
    unfold whlL
    rw [h1]
    rcases h2 with h2 | h2 <;> (simp only [sOf_ok, if_true]; rw [h2]; exact h4)
/-- a while by a measure -/
theorem whl_ms {c : Env → R Bool} {b : Env → SR} (G : Nat → Env → Prop) (E : Env → Prop) (hs : ∀ n ρ, G n ρ → (∃ ρ1, c ρ = .ok false ρ1 ∧ E ρ1) ∨ ∃ ρ1, c ρ = .ok true ρ1 ∧ ∃ ρ2 n', (b ρ1 = .nx ρ2 ∨ b ρ1 = .ct ρ2) ∧ n' < n ∧ G n' ρ2) : ∀ (m n : Nat) (ρ : Env), n < m → G n ρ → ∃ ρ', whlL c b m ρ = .nx ρ' ∧ E ρ'
  | 0, n, ρ, h, _ => absurd h (Nat.not_lt_zero _)
  | m + 1, n, ρ, h, g => by
    rcases hs n ρ g with ⟨ρ1, h1, h2⟩ | ⟨ρ1, h1, ρ2, n', h2, h3, h4⟩
    · refine ⟨ρ1, ?_, h2⟩
      unfold whlL
      rw [h1]
      rfl
    · obtain ⟨ρ', h5, h6⟩ := whl_ms G E hs m n' ρ2 (by omega) h4
      refine ⟨ρ', ?_, h6⟩
      unfold whlL
      rw [h1]
      rcases h2 with h2 | h2 <;> (simp only [sOf_ok, if_true]; rw [h2]; exact h5)
theorem whlL_fuel {c : Env → R Bool} {b : Env → SR} (G : Nat → Env → Prop) (E : Env → Prop) (hs : ∀ n ρ, G n ρ → (∃ ρ1, c ρ = .ok false ρ1 ∧ E ρ1) ∨ ∃ ρ1, c ρ = .ok true ρ1 ∧ ∃ ρ2 n', (b ρ1 = .nx ρ2 ∨ b ρ1 = .ct ρ2) ∧ n' < n ∧ G n' ρ2) {n : Nat} {ρ : Env} (hn : n < fuel) (g : G n ρ) : ∃ ρ', whlL c b fuel ρ = .nx ρ' ∧ E ρ' := whl_ms G E hs fuel n ρ hn g
theorem lt_fuel {n : Nat} (h : n ≤ 1000000) : n < fuel := by unfold fuel; omega
/-! ### the parts of a body -/
def takeS : Nat → Tss → Tss
  | 0, _ => .nil
  | n + 1, .cons t ts => .cons t (takeS n ts)
  | n + 1, .frz i ts => .frz i (takeS n ts)
  | _, .nil => .nil
def dropS : Nat → Tss → Tss
  | 0, ts => ts
  | n + 1, .cons _ ts => dropS n ts
  | n + 1, .frz _ ts => dropS n ts
  | _, .nil => .nil
theorem svs_split (Φ : Fs) : ∀ (n : Nat) (b : Tss) (ρ : Env), svs Φ b ρ = seqS (svs Φ (takeS n b) ρ) (svs Φ (dropS n b)) := by
  intro n
  induction n with
  | zero => intro b ρ; cases b <;> rfl
  | succ n ih =>
    intro b ρ
    cases b with
    | nil => rfl
    | cons t ts =>
      show svs Φ (.cons t ts) ρ = seqS (svs Φ (.cons t (takeS n ts)) ρ) (svs Φ (dropS n ts))
      rw [svs_cons, svs_cons]
      cases sv Φ t ρ with
      | nx ρ1 => exact ih ts ρ1
      | _ => rfl
    | frz i ts =>
      show svs Φ (.frz i ts) ρ = seqS (svs Φ (.frz i (takeS n ts)) ρ) (svs Φ (dropS n ts))
      rw [svs_frz, svs_frz]
      cases frzE i ρ with
      | none => rfl
      | some ρ1 => exact ih ts ρ1
/-! ### sorted by keys -/
@[simp] theorem ev_sortK (Φ : Fs) (p : Str) (cs : List (Nat × Str)) (b a : Tm) : ev Φ (.sortK p cs b a) = ofV fun ρ => ((ev Φ a).v ρ).bind (sortKE cs (ev Φ b).v) := rfl
@[simp] theorem ev_comp2 (Φ : Fs) (own : List (Str × Nat)) (own1 : List Nat) (tg : Tg) (it : Tit) (c : To) (tg1 : Tg) (it1 : Tit) (c1 : To) (e : Tm) : ev Φ (.comp2 own own1 tg it c tg1 it1 c1 e) = ofV fun ρ => (evi Φ it ρ).bind fun items ρ1 => compE2 (own.map (·.2)) own1 tg (etc Φ c) (evi Φ it1) tg1 (etc Φ c1) (ev Φ e).v items ρ1 := rfl
@[simp] theorem evi_rng3 (Φ : Fs) (a b c : Tm) (ρ : Env) : evi Φ (.rng3 a b c) ρ = ((ev Φ a).v ρ).bind fun r ρ1 => ((ev Φ b).v ρ1).bind fun s ρ2 => ((ev Φ c).v ρ2).bind fun t ρ3 => rng3I r s t ρ3 := rfl
theorem insB_map {α β : Type} (f : α → β) (le : β → β → Bool) (a : α) : ∀ l : List α, insB le (f a) (l.map f) = (insB (fun a b => le (f a) (f b)) a l).map f
  | [] => rfl
  | b :: l => by
    show (if le (f a) (f b) then f a :: f b :: l.map f else f b :: insB le (f a) (l.map f)) = List.map f (if le (f a) (f b) then a :: b :: l else b :: insB _ a l)
    split
    · rfl
    · rw [insB_map f le a l]; rfl
theorem insB_perm {α : Type} (le : α → α → Bool) (a : α) : ∀ l : List α, (insB le a l).Perm (a :: l)
  | [] => List.Perm.refl _
  | b :: l => by
    show (if le a b then a :: b :: l else b :: insB le a l).Perm _
    split
    · exact List.Perm.refl _
    · exact ((insB_perm le a l).cons b).trans (List.Perm.swap a b l)
theorem isortB_perm {α : Type} (le : α → α → Bool) : ∀ l : List α, (isortB le l).Perm l
  | [] => List.Perm.refl _
  | a :: l => (insB_perm le a _).trans ((isortB_perm le l).cons a)
theorem isortB_len {α : Type} (le : α → α → Bool) (l : List α) : (isortB le l).length = l.length := (isortB_perm le l).length_eq
theorem isortB_map {α β : Type} (f : α → β) (le : β → β → Bool) : ∀ l : List α, isortB le (l.map f) = (isortB (fun a b => le (f a) (f b)) l).map f
  | [] => rfl
  | a :: l => by
    show insB le (f a) (isortB le (l.map f)) = (insB _ a (isortB _ l)).map f
    rw [isortB_map f le l, insB_map]
theorem isortB_congr {α : Type} {le le' : α → α → Bool} (h : ∀ a b, le a b = le' a b) (l : List α) : isortB le l = isortB le' l := by
  have : le = le' := funext fun a => funext fun b => h a b
  rw [this]
theorem keysE_map {α : Type} {b : Env → R RV} {cs : List P} (enc key : α → P) : ∀ {xs : List α}, (∀ x ∈ xs, noL (enc x) = true ∧ noL (key x) = true ∧ ∃ ρ', b (.val (.d (enc x)) :: cs.map fun c => .val (.d c)) = .ok (.sh (.d (key x))) ρ') → keysE b cs (xs.map enc) = some (xs.map key)
  | [], _ => rfl
  | x :: xs, h => by
    obtain ⟨h1, h2, ρ', h3⟩ := h x List.mem_cons_self
    rw [List.map_cons]
    unfold keysE
    rw [h3]
    simp only [h1, h2, Bool.and_self, if_true]
    rw [keysE_map enc key fun y hy => h y (List.mem_cons_of_mem _ hy)]
    rfl
theorem zip_maps {α β γ : Type} (f : α → β) (g : α → γ) : ∀ xs : List α, (xs.map f).zip (xs.map g) = xs.map fun x => (f x, g x)
  | [] => rfl
  | x :: xs => by rw [List.map_cons, List.map_cons, List.zip_cons_cons, zip_maps f g xs]; rfl
/-- sorted(xs, key=..) on typed data -/
theorem sortKE_map {α : Type} (enc key : α → P) (le : α → α → Bool) (hle : ∀ a b, le a b = dle (key a) (key b)) {cs : List (Nat × Str)} {b : Env → R RV} {r : RV} {ρ : Env} {vs : List P} {xs : List α} (h1 : (derefP ρ r).bind seqP = some (xs.map enc)) (h2 : capsE ρ cs = some vs)
    (h3 : ∀ x ∈ xs, noL (enc x) = true ∧ noL (key x) = true ∧ ∃ ρ', b (.val (.d (enc x)) :: vs.map fun c => .val (.d c)) = .ok (.sh (.d (key x))) ρ') (h5 : sortOk (xs.map key) = true) : sortKE cs b r ρ = .ok (.fr (.d (.list ((isortB le xs).map enc)))) ρ := by
  unfold sortKE
  rw [h1, h2]
  simp only
  rw [keysE_map enc key h3]
  simp only [h5, if_true]
  have e : sortKs (xs.map key) (xs.map enc) = (isortB le xs).map enc := by
    unfold sortKs
    have z := zip_maps key enc xs
    rw [z, isortB_map, List.map_map, isortB_congr (le' := le) (fun a b => show PySem.W.dataLe false Prod.fst (key a, enc a) (key b, enc b) = le a b from (hle a b).symm)]
    rfl
  rw [e]
end Mp

set_option maxRecDepth 100000
set_option maxHeartbeats 400000
/-! Lb1: lists, changes, histories: what the module's defs say of any data. -/
namespace Lb
open Mp PySem L2
def b0 : Fd := ⟨3, 3, (.cons (.ret (.bop false (.cons (.bi (.isi .tuple) (.var 0 "value")) (.cons (.chain .le .le (.var 1 "low") (.bi .len (.var 0 "value")) (.var 2 "high")) .nil)))) .nil)⟩
def b1 : Fd := ⟨3, 3, (.cons (.ret (.bop false (.cons (.bi (.isi .int) (.var 0 "value")) (.cons (.notE (.bi (.isi .bool) (.var 0 "value"))) (.cons (.chain .le .le (.var 1 "low") (.var 0 "value") (.var 2 "high")) .nil))))) .nil)⟩
def b2 : Fd := ⟨1, 1, (.cons (.ret (.bop false (.cons (.call 0 (.cons (.var 0 "value") (.cons (.cst (.int 2)) (.cons (.cst (.int 2)) .nil)))) (.cons (.call 1 (.cons (.ix (.var 0 "value") (.glob "KEY" (.int 0))) (.cons (.cst (.int 0)) (.cons (.bin .sub (.glob "KEYS" (.int 10)) (.cst (.int 1))) .nil)))) (.cons (.call 1 (.cons (.ix (.var 0 "value") (.glob "RANK" (.int 1))) (.cons (.cst (.int 0)) (.cons (.bin .sub (.glob "RANKS" (.int 6)) (.cst (.int 1))) .nil)))) .nil))))) .nil)⟩
def b3 : Fd := ⟨1, 4, (.cons (.ife (.bop true (.cons (.notE (.call 0 (.cons (.var 0 "value") (.cons (.cst (.int 0)) (.cons (.glob "KEYS" (.int 10)) .nil))))) (.cons (.notE (.bi .all (.comp [("own", 1)] (.nm 1 "own") (.seq (.var 0 "value")) .no (.call 2 (.cons (.var 1 "own") .nil))))) .nil))) (.cons (.ret (.cst (.bool false))) .nil) .nil) (.cons (.ret (.bi .all (.comp [("one", 2), ("other", 3)] (.tp [(2, "one"), (3, "other")]) (.zip (.var 0 "value") (.sl (.var 0 "value") (.yes (.cst (.int 1))) .no)) .no (.cmp .lt (.ix (.var 2 "one") (.glob "KEY" (.int 0))) (.ix (.var 3 "other") (.glob "KEY" (.int 0))))))) .nil))⟩
def b4 : Fd := ⟨1, 1, (.cons (.ife (.bop true (.cons (.notE (.call 0 (.cons (.var 0 "value") (.cons (.cst (.int 2)) (.cons (.cst (.int 3)) .nil))))) (.cons (.notE (.bi (.isi .str) (.ix (.var 0 "value") (.cst (.int 0))))) .nil))) (.cons (.ret (.cst (.bool false))) .nil) .nil) (.cons (.ife (.cmp .eq (.ix (.var 0 "value") (.cst (.int 0))) (.cst (.str "put"))) (.cons (.ret (.bop false (.cons (.cmp .eq (.bi .len (.var 0 "value")) (.cst (.int 3))) (.cons (.call 2 (.cons (.sl (.var 0 "value") (.yes (.cst (.int 1))) .no) .nil)) .nil)))) .nil) .nil) (.cons (.ret (.bop false (.cons (.cmp .eq (.ix (.var 0 "value") (.cst (.int 0))) (.cst (.str "drop"))) (.cons (.cmp .eq (.bi .len (.var 0 "value")) (.cst (.int 2))) (.cons (.call 1 (.cons (.ix (.var 0 "value") (.cst (.int 1))) (.cons (.cst (.int 0)) (.cons (.bin .sub (.glob "KEYS" (.int 10)) (.cst (.int 1))) .nil)))) .nil))))) .nil)))⟩
def b5 : Fd := ⟨1, 1, (.cons (.ife (.notE (.call 3 (.cons (.var 0 "value") .nil))) (.cons (.raise 0) .nil) .nil) .nil)⟩
def b6 : Fd := ⟨1, 1, (.cons (.ret (.call 3 (.cons (.var 0 "value") .nil))) .nil)⟩
def b7 : Fd := ⟨1, 1, (.cons (.ret (.bop true (.cons (.bop false (.cons (.cmp .eq (.var 0 "value") (.glob "PAGE" (.tuple [(.str "page")]))) (.cons (.bi (.isi .tuple) (.var 0 "value")) .nil))) (.cons (.call 4 (.cons (.var 0 "value") .nil)) .nil)))) .nil)⟩
def b8 : Fd := ⟨1, 2, (.cons (.ret (.bop false (.cons (.call 0 (.cons (.var 0 "value") (.cons (.cst (.int 0)) (.cons (.glob "STEPS" (.int 60)) .nil)))) (.cons (.bi .all (.comp [("own", 1)] (.nm 1 "own") (.seq (.var 0 "value")) .no (.call 7 (.cons (.var 1 "own") .nil)))) .nil)))) .nil)⟩
def b9 : Fd := ⟨1, 1, (.cons (.ret (.call 8 (.cons (.var 0 "value") .nil))) .nil)⟩

section
variable {T : Nat → Option Fd}
def isTup (v : P) (lo hi : Int) : Bool := match v with
  | .tuple xs => decide (lo ≤ xs.length) && decide ((xs.length : Int) ≤ hi)
  | _ => false
theorem s0 (h0 : T 0 = some b0) (k : Nat) (v : P) (lo hi : Int) : runs T (k+1) 0 [.sh (.d v), .sh (.d (.int lo)), .sh (.d (.int hi))] = .ok (.d (.bool (isTup v lo hi))) false [none, none, none] := by
  rw [runs_eq h0]
  cases v <;> simp [b0, isTup]
def fitsW (v : P) (lo hi : Int) : Bool := match v with
  | .int i => decide (lo ≤ i) && decide (i ≤ hi)
  | _ => false
theorem s1 (h1 : T 1 = some b1) (k : Nat) (v : P) (lo hi : Int) : runs T (k+1) 1 [.sh (.d v), .sh (.d (.int lo)), .sh (.d (.int hi))] = .ok (.d (.bool (fitsW v lo hi))) false [none, none, none] := by
  rw [runs_eq h1]
  cases v <;> simp [b1, fitsW]
def fitsRow (v : P) : Bool := match v with
  | .tuple [a, b] => fitsW a 0 9 && fitsW b 0 5
  | _ => false
theorem s2 (h0 : T 0 = some b0) (h1 : T 1 = some b1) (h2 : T 2 = some b2) (k : Nat) (v : P) : runs T (k+2) 2 [.sh (.d v)] = .ok (.d (.bool (fitsRow v))) false [none] := by
  rw [runs_eq h2]
  rcases v with _ | _ | _ | _ | _ | xs | _ <;> try (simp [b2, s0 h0, s1 h1, isTup, fitsRow]; done)
  rcases xs with _ | ⟨a, _ | ⟨b, _ | ⟨c, r⟩⟩⟩ <;> simp [b2, s0 h0, s1 h1, isTup, fitsRow]
  rw [if_pos (by omega)]
  intro; omega
def key0 : P → Int
  | .tuple (.int k :: _) => k
  | _ => 0
def keysUp (xs : List P) : Bool := (xs.zip (xs.drop 1)).all fun p => decide (key0 p.1 < key0 p.2)
def fitsList (v : P) : Bool := match v with
  | .tuple xs => decide (xs.length ≤ 10) && (xs.all fitsRow && keysUp xs)
  | _ => false
theorem zipL_eq : ∀ xs ys : List P, zipL xs ys = (xs.zip ys).map fun p => D.d (.tuple [p.1, p.2])
  | [], _ => by simp [zipL]
  | _ :: _, [] => by simp [zipL]
  | x :: xs, y :: ys => by simp [zipL, zipL_eq xs ys]
theorem fitsRow_ok {v : P} (h : fitsRow v = true) : ∃ a b : Int, v = .tuple [.int a, .int b] := by
  unfold fitsRow at h
  split at h
  · rename_i a b
    cases a <;> simp [fitsW] at h
    cases b <;> simp at h
    exact ⟨_, _, rfl⟩
  · cases h
theorem s3 (h0 : T 0 = some b0) (h1 : T 1 = some b1) (h2 : T 2 = some b2) (h3 : T 3 = some b3) (k : Nat) (v : P) : runs T (k+3) 3 [.sh (.d v)] = .ok (.d (.bool (fitsList v))) false [none] := by
  rw [runs_eq h3]
  rcases v with _ | _ | _ | _ | _ | xs | _ <;> try (simp [b3, s0 h0, isTup, fitsList]; done)
  by_cases h10 : xs.length ≤ 10
  · by_cases ha : xs.all fitsRow = true
    · have h10' : ¬ (10 : Int) < xs.length := by omega
      have h10'' : (xs.length : Int) ≤ 10 := by omega
      simp [b3, s0 h0, isTup, fitsList, h10, ha]
      rw [compE_map D.d (fun x => .bool (fitsRow x)) (fun x hx => by simp [turnOk, s2 h0 h1 h2])]
      have ha' : ∀ x ∈ xs, fitsRow x = true := List.all_eq_true.mp ha
      have hn : ¬ (∃ x, x ∈ xs ∧ fitsRow x = false) := fun ⟨x, hx, e⟩ => by rw [ha' x hx] at e; cases e
      simp [boolsP_map, hn, zipL_eq, h10', h10'']
      rw [compE_map (fun p : P × P => D.d (.tuple [p.1, p.2])) (fun p : P × P => .bool (decide (key0 p.1 < key0 p.2))) (fun p hp => ?_)]
      · simp [boolsP_map, keysUp]
      · obtain ⟨h5, h6⟩ := List.of_mem_zip hp
        obtain ⟨a, b, e1⟩ := fitsRow_ok (ha' _ h5)
        obtain ⟨c, d, e2⟩ := fitsRow_ok (ha' _ (List.mem_of_mem_tail h6))
        simp [turnOk, e1, e2, key0]
    · have h10' : ¬ (10 : Int) < xs.length := by omega
      have h10'' : (xs.length : Int) ≤ 10 := by omega
      simp [b3, s0 h0, isTup, fitsList, h10, ha]
      have hn : ∃ x, x ∈ xs ∧ fitsRow x = false := by simpa using ha
      rw [compE_map D.d (fun x => .bool (fitsRow x)) (fun x hx => by simp [turnOk, s2 h0 h1 h2])]
      simp [boolsP_map, hn, h10', h10'']
  · have : ¬ ((xs.length : Int) ≤ 10) := by omega
    simp [b3, s0 h0, isTup, fitsList, h10, this]
abbrev sPut : Str := "put"
abbrev sDrop : Str := "drop"
abbrev sPage : Str := "page"
def fitsChange : P → Bool
  | .tuple [.str s, a] => if s = sPut then false else (s == sDrop) && fitsW a 0 9
  | .tuple [.str s, a, b] => if s = sPut then fitsRow (.tuple [a, b]) else false
  | _ => false
theorem s4 (h0 : T 0 = some b0) (h1 : T 1 = some b1) (h2 : T 2 = some b2) (h4 : T 4 = some b4) (k : Nat) (v : P) : runs T (k+3) 4 [.sh (.d v)] = .ok (.d (.bool (fitsChange v))) false [none] := by
  rw [runs_eq h4]
  rcases v with _ | _ | _ | _ | _ | xs | _ <;> try (simp [b4, s0 h0, isTup, fitsChange]; done)
  rcases xs with _ | ⟨a, _ | ⟨b, _ | ⟨c, _ | ⟨d, r⟩⟩⟩⟩ <;> try (simp [b4, s0 h0, isTup, fitsChange]; done)
  · cases a <;> try (simp [b4, s0 h0, isTup, fitsChange]; done)
    rename_i s
    by_cases hp : s = sPut
    · simp [b4, s0 h0, s1 h1, s2 h0 h1 h2, isTup, fitsChange, hp]
    · by_cases hd : s = sDrop
      · simp [b4, s0 h0, s1 h1, s2 h0 h1 h2, isTup, fitsChange, hp, hd]
      · simp [b4, s0 h0, s1 h1, s2 h0 h1 h2, isTup, fitsChange, hp, hd]
  · cases a <;> try (simp [b4, s0 h0, isTup, fitsChange]; done)
    rename_i s
    by_cases hp : s = sPut
    · simp [b4, s0 h0, s1 h1, s2 h0 h1 h2, isTup, fitsChange, hp]
    · by_cases hd : s = sDrop
      · simp [b4, s0 h0, s1 h1, s2 h0 h1 h2, isTup, fitsChange, hp, hd]
      · simp [b4, s0 h0, s1 h1, s2 h0 h1 h2, isTup, fitsChange, hp, hd]
  · simp [b4, s0 h0, isTup, fitsChange]
    rw [if_pos (by intros; omega)]
    simp
theorem s5 (h0 : T 0 = some b0) (h1 : T 1 = some b1) (h2 : T 2 = some b2) (h3 : T 3 = some b3) (h5 : T 5 = some b5) (k : Nat) (v : P) : runs T (k+4) 5 [.sh (.d v)] = if fitsList v then .ok (.d .none) false [none] else .ex ⟨0, []⟩ [none] := by
  rw [runs_eq h5]
  cases h : fitsList v <;> simp [b5, s3 h0 h1 h2 h3, h]
theorem s6 (h0 : T 0 = some b0) (h1 : T 1 = some b1) (h2 : T 2 = some b2) (h3 : T 3 = some b3) (h6 : T 6 = some b6) (k : Nat) (v : P) : runs T (k+4) 6 [.sh (.d v)] = .ok (.d (.bool (fitsList v))) false [none] := by
  rw [runs_eq h6]
  simp [b6, s3 h0 h1 h2 h3]
def fitsStep (v : P) : Bool := (PyData.eqv v (.tuple [.str sPage]) && isiP .tuple v) || fitsChange v
theorem eqP_page (v : P) : eqP v (.tuple [.str sPage]) = some (PyData.eqv v (.tuple [.str sPage])) := by
  unfold eqP
  rw [if_pos]
  have : (PyData.tuple [.str sPage]).depth ≤ 64 := by decide
  exact Nat.le_trans (Nat.min_le_right _ _) this
theorem s7 (h0 : T 0 = some b0) (h1 : T 1 = some b1) (h2 : T 2 = some b2) (h4 : T 4 = some b4) (h7 : T 7 = some b7) (k : Nat) (v : P) : runs T (k+4) 7 [.sh (.d v)] = .ok (.d (.bool (fitsStep v))) false [none] := by
  rw [runs_eq h7]
  simp [b7, s4 h0 h1 h2 h4, eqP_page, fitsStep]
  cases PyData.eqv v (.tuple [.str sPage]) <;> cases isiP .tuple v <;> simp
def fitsHist (v : P) : Bool := match v with
  | .tuple xs => decide (xs.length ≤ 60) && xs.all fitsStep
  | _ => false
theorem s8 (h0 : T 0 = some b0) (h1 : T 1 = some b1) (h2 : T 2 = some b2) (h4 : T 4 = some b4) (h7 : T 7 = some b7) (h8 : T 8 = some b8) (k : Nat) (v : P) : runs T (k+5) 8 [.sh (.d v)] = .ok (.d (.bool (fitsHist v))) false [none] := by
  rw [runs_eq h8]
  rcases v with _ | _ | _ | _ | _ | xs | _ <;> try (simp [b8, s0 h0, isTup, fitsHist]; done)
  simp [b8, s0 h0, isTup, fitsHist]
  rw [compE_map D.d (fun x => .bool (fitsStep x)) (fun x hx => by simp [turnOk, s7 h0 h1 h2 h4 h7])]
  simp [boolsP_map]
  by_cases h : xs.length ≤ 60
  · simp [h, show ¬ (60 : Int) < xs.length by omega]
  · simp [h, show (60 : Int) < xs.length by omega, show ¬ (xs.length : Int) ≤ 60 by omega]
theorem s9 (h0 : T 0 = some b0) (h1 : T 1 = some b1) (h2 : T 2 = some b2) (h4 : T 4 = some b4) (h7 : T 7 = some b7) (h8 : T 8 = some b8) (h9 : T 9 = some b9) (k : Nat) (v : P) : runs T (k+6) 9 [.sh (.d v)] = .ok (.d (.bool (fitsHist v))) false [none] := by
  rw [runs_eq h9]
  simp [b9, s8 h0 h1 h2 h4 h7 h8]
end
end Lb

set_option maxRecDepth 100000
set_option maxHeartbeats 400000
/-! Lb2: what the laws draw by, and how they compare. -/
namespace Lb
open Mp PySem L2
def bCup (c0 c1 c2 c3 c4 : Int) : Fd := ⟨1, 2, (.cons (.set 1 "cell" (.bi .abs (.ix (.bin .add (.bi .list (.var 0 "script")) (.lst (.cons (.cst (.int 0)) .nil))) (.cst (.int 0))))) (.cons (.ret (.lst (.cons (.ife (.cmp .ge (.var 1 "cell") (.bin .pow (.cst (.int 10)) (.cst (.int 18)))) (.bin .fdiv (.var 1 "cell") (.cst (.int c0))) (.cst (.int 0))) (.cons (.bin .add (.bin .mod (.bi .int (.bin .add (.bin .mul (.var 1 "cell") (.cst (.int c1))) (.cst (.int c2)))) (.cst (.int c3))) (.cst (.int c4))) .nil)))) .nil))⟩
def bRoll (c0 c1 c2 c3 c4 c5 : Int) : Fd := ⟨2, 4, (.cons (.ife (.cmp .gt (.ix (.var 0 "cup") (.cst (.int 0))) (.cst (.int 0))) (.cons (.set 2 "found" (.bin .mod (.bi .int (.ix (.var 0 "cup") (.cst (.int 0)))) (.var 1 "many"))) (.cons (.setIx 0 "cup" (.cst (.int 0)) (.bin .fdiv (.ix (.var 0 "cup") (.cst (.int 0))) (.var 1 "many"))) (.cons (.ret (.var 2 "found")) .nil))) .nil) (.cons (.setIx 0 "cup" (.cst (.int 1)) (.bin .mod (.bi .int (.bin .add (.bin .mul (.ix (.var 0 "cup") (.cst (.int 1))) (.cst (.int c0))) (.cst (.int c1)))) (.cst (.int c2)))) (.cons (.set 3 "deep" (.bin .mod (.bi .int (.bin .mul (.ix (.var 0 "cup") (.cst (.int 1))) (.bin .add (.ix (.var 0 "cup") (.cst (.int 1))) (.cst (.int c3))))) (.cst (.int c4)))) (.cons (.ret (.bin .mod (.bi .int (.bin .fdiv (.var 3 "deep") (.cst (.int c5)))) (.var 1 "many"))) .nil))))⟩
def b19 : Fd := ⟨2, 2, (.cons (.ret (.ix (.var 1 "things") (.call 18 (.cons (.var 0 "cup") (.cons (.bi .len (.var 1 "things")) .nil))))) .nil)⟩
def b20 : Fd := ⟨2, 3, (.cons (.ife (.bi (.isi .tuple) (.var 1 "due")) (.cons (.ife (.bop true (.cons (.notE (.bi (.isi .tuple) (.var 0 "told"))) (.cons (.cmp .ne (.bi .len (.var 0 "told")) (.bi .len (.var 1 "due"))) .nil))) (.cons (.ret (.cst (.bool false))) .nil) .nil) (.cons (.ret (.bi .all (.comp [("at", 2)] (.nm 2 "at") (.rng (.bi .len (.var 1 "due"))) .no (.call 20 (.cons (.ix (.var 0 "told") (.var 2 "at")) (.cons (.ix (.var 1 "due") (.var 2 "at")) .nil)))))) .nil)) .nil) (.cons (.ife (.cmp .is (.var 1 "due") (.cst .none)) (.cons (.ret (.cmp .is (.var 0 "told") (.cst .none))) .nil) .nil) (.cons (.ife (.bi (.isi .bool) (.var 1 "due")) (.cons (.ret (.ife (.var 1 "due") (.cmp .is (.var 0 "told") (.cst (.bool true))) (.cmp .is (.var 0 "told") (.cst (.bool false))))) .nil) .nil) (.cons (.ife (.bi (.isi .int) (.var 1 "due")) (.cons (.ret (.bop false (.cons (.bi (.isi .int) (.var 0 "told")) (.cons (.notE (.bi (.isi .bool) (.var 0 "told"))) (.cons (.cmp .eq (.bi .int (.var 0 "told")) (.var 1 "due")) .nil))))) .nil) .nil) (.cons (.ret (.bop false (.cons (.bi (.isi .str) (.var 0 "told")) (.cons (.cmp .eq (.bi .str (.var 0 "told")) (.var 1 "due")) .nil)))) .nil)))))⟩
def b21 : Fd := ⟨2, 5, (.cons (.setP [(2, "high"), (3, "found")] (.cons (.call 19 (.cons (.var 0 "cup") (.cons (.lst (.cons (.cst (.int 2)) (.cons (.cst (.int 3)) (.cons (.cst (.int 6)) .nil)))) .nil))) (.cons (.lst .nil) .nil))) (.frz 2 (.cons (.forS (.nm 4 "key") (.rng (.cst (.int 10))) (.cons (.ife (.bop false (.cons (.cmp .lt (.bi .len (.var 3 "found")) (.var 1 "most")) (.cons (.cmp .eq (.call 18 (.cons (.var 0 "cup") (.cons (.cst (.int 2)) .nil))) (.cst (.int 0))) .nil))) (.cons (.app 3 "found" (.tup (.cons (.var 4 "key") (.cons (.call 18 (.cons (.var 0 "cup") (.cons (.var 2 "high") .nil))) .nil)))) .nil) .nil) .nil)) (.frz 3 (.cons (.ret (.bi .tuple (.var 3 "found"))) .nil)))))⟩
def b22 : Fd := ⟨1, 1, (.cons (.ife (.cmp .eq (.call 18 (.cons (.var 0 "cup") (.cons (.cst (.int 3)) .nil))) (.cst (.int 0))) (.cons (.ret (.tup (.cons (.cst (.str "drop")) (.cons (.call 18 (.cons (.var 0 "cup") (.cons (.cst (.int 10)) .nil))) .nil)))) .nil) .nil) (.cons (.ret (.tup (.cons (.cst (.str "put")) (.cons (.call 18 (.cons (.var 0 "cup") (.cons (.cst (.int 10)) .nil))) (.cons (.call 18 (.cons (.var 0 "cup") (.cons (.call 19 (.cons (.var 0 "cup") (.cons (.lst (.cons (.cst (.int 2)) (.cons (.cst (.int 3)) (.cons (.cst (.int 6)) .nil)))) .nil))) .nil))) .nil))))) .nil))⟩
def b23 : Fd := ⟨2, 3, (.cons (.ret (.bi .tuple (.comp [("step", 2)] (.nm 2 "step") (.rng (.var 1 "many")) .no (.ife (.cmp .eq (.call 18 (.cons (.var 0 "cup") (.cons (.cst (.int 2)) .nil))) (.cst (.int 0))) (.tup (.cons (.cst (.str "page")) .nil)) (.call 22 (.cons (.var 0 "cup") .nil)))))) .nil)⟩

section
variable {T : Nat → Option Fd}
/-- the drawer's two numbers -/
abbrev cup (a b : Int) : D := .d (.list [.int a, .int b])
theorem sRoll {c0 c1 c2 c3 c4 c5 : Int} {f : Nat} (h : T f = some (bRoll c0 c1 c2 c3 c4 c5)) (hc : (0 < c2 ∧ c2 ≤ 4294967296) ∧ (0 < c4) ∧ (0 < c5 ∧ c5 < 1073741824) ∧ (0 ≤ c0 ∧ c0 ≤ 4294967296) ∧ 0 ≤ c1 ∧ 0 ≤ c3) (k : Nat) (a b m : Int) (hm : 0 < m ∧ m < 1073741824) (hb : 0 ≤ b ∧ b ≤ 4294967296) :
    ∃ a' b' r, runs T (k+1) f [.ln (cup a b), .sh (.d (.int m))] = .ok (.d (.int r)) false [some (cup a' b'), none] ∧ 0 ≤ r ∧ r < m ∧ 0 ≤ b' ∧ b' ≤ 4294967296 := by
  rw [runs_eq h]
  by_cases ha : 0 < a
  · refine ⟨a / m, b, a % m, ?_, Int.emod_nonneg _ (by omega), Int.emod_lt_of_pos _ (by omega), hb⟩
    simp [bRoll, ha, hm]
  · have hs1 : smallI b = true := smallI_of (by omega)
    have hn : 0 ≤ (b * c0 + c1) % c2 := Int.emod_nonneg _ (by omega)
    have hl : (b * c0 + c1) % c2 < c2 := Int.emod_lt_of_pos _ (by omega)
    have hs2 : smallI ((b * c0 + c1) % c2) = true := smallI_of (by omega)
    refine ⟨a, (b * c0 + c1) % c2, ((b * c0 + c1) % c2 * ((b * c0 + c1) % c2 + c3) % c4 / c5) % m, ?_, Int.emod_nonneg _ (by omega), Int.emod_lt_of_pos _ (by omega), hn, by omega⟩
    simp [bRoll, ha, hm, hs1, hs2, hc]
/-- things of a depth: what _law_same compares -/
def pl : Nat → P → Prop
  | _, .none => True
  | _, .bool _ => True
  | _, .int _ => True
  | _, .str _ => True
  | n + 1, .tuple xs => xs.length ≤ 16777216 ∧ ∀ x ∈ xs, pl n x
  | _, _ => False
theorem same_refl (h : T 20 = some b20) : ∀ (n k : Nat) (x : P), pl n x → runs T (k+n+1) 20 [.sh (.d x), .sh (.d x)] = .ok (.d (.bool true)) false [none, none] := by
  intro n
  induction n with
  | zero =>
    intro k x hx
    rw [runs_eq h]
    cases x <;> first | (simp [pl] at hx; done) | (simp [b20]; done) | (rename_i b; cases b <;> simp [b20])
  | succ n ih =>
    intro k x hx
    rw [show k + (n + 1) + 1 = (k + n + 1) + 1 by omega, runs_eq h]
    cases x <;> first | (simp [pl] at hx; done) | (simp [b20]; done) | (rename_i b; cases b <;> simp [b20]; done) | skip
    rename_i xs
    obtain ⟨hz, hx⟩ := hx
    have hr : smallR (xs.length : Int) = true := smallR_of (by omega)
    simp [b20, hr, rngL_0, hz]
    rw [compE_map (fun i : Nat => D.d (.int (i : Int))) (fun _ => .bool true) (fun i hi => ?_)]
    · simp [boolsP_map]
    · have hi : i < xs.length := List.mem_range.mp hi
      simp [turnOk, List.getElem?_eq_getElem hi, ih k _ (hx _ (List.getElem_mem hi))]
/-- one of the things -/
theorem sSome {c0 c1 c2 c3 c4 c5 : Int} (h19 : T 19 = some b19) (h : T 18 = some (bRoll c0 c1 c2 c3 c4 c5)) (hc : (0 < c2 ∧ c2 ≤ 4294967296) ∧ (0 < c4) ∧ (0 < c5 ∧ c5 < 1073741824) ∧ (0 ≤ c0 ∧ c0 ≤ 4294967296) ∧ 0 ≤ c1 ∧ 0 ≤ c3) (k : Nat) (a b : Int) (xs : List P) (hx : xs ≠ []) (hz : xs.length < 1073741824) (hb : 0 ≤ b ∧ b ≤ 4294967296) :
    ∃ a' b' x, runs T (k+2) 19 [.ln (cup a b), .sh (.d (.list xs))] = .ok (.d x) false [some (cup a' b'), none] ∧ x ∈ xs ∧ 0 ≤ b' ∧ b' ≤ 4294967296 := by
  have hl : 0 < xs.length := List.length_pos_iff.mpr hx
  obtain ⟨a', b', r, e, h1, h2, h3, h4⟩ := sRoll h hc k a b (xs.length : Int) (by omega) hb
  obtain ⟨n, rfl⟩ : ∃ n : Nat, r = n := ⟨r.toNat, by omega⟩
  have hlt : n < xs.length := by omega
  refine ⟨a', b', xs[n], ?_, List.getElem_mem hlt, h3, h4⟩
  rw [runs_eq h19]
  simp [b19, e, List.getElem?_eq_getElem hlt]
/-- rows, in the order of their keys -/
def eR (p : Int × Int) : P := .tuple [.int p.1, .int p.2]
def eRs (rs : List (Int × Int)) : P := .tuple (rs.map eR)
def Rw (p : Int × Int) : Prop := 0 ≤ p.1 ∧ p.1 ≤ 9 ∧ 0 ≤ p.2 ∧ p.2 ≤ 5
/-- a list of rows as the module wants it -/
structure RowsOk (rs : List (Int × Int)) : Prop where
  len : rs.length ≤ 10
  all : ∀ p ∈ rs, Rw p
  up : rs.Pairwise fun p q => p.1 < q.1
theorem fitsRow_eR {p : Int × Int} (h : Rw p) : fitsRow (eR p) = true := by
  obtain ⟨h1, h2, h3, h4⟩ := h
  simp [eR, fitsRow, fitsW, h1, h2, h3, h4]
theorem fitsList_eRs {rs : List (Int × Int)} (h : RowsOk rs) : fitsList (eRs rs) = true := by
  have h1 := h.len
  unfold eRs fitsList
  simp only [List.length_map, Bool.and_eq_true, decide_eq_true_eq]
  refine ⟨h1, ?_, ?_⟩
  · rw [List.all_eq_true]
    intro v hv
    obtain ⟨p, hp, rfl⟩ := List.mem_map.mp hv
    exact fitsRow_eR (h.all p hp)
  · have hu := h.up
    unfold keysUp
    clear h h1
    induction rs with
    | nil => rfl
    | cons p rs ih =>
      cases rs with
      | nil => rfl
      | cons q rs =>
        have h2 := List.pairwise_cons.mp hu
        have h3 := ih h2.2
        have h4 := h2.1 q List.mem_cons_self
        simp only [List.map_cons, List.drop_succ_cons, List.drop_zero, List.zip_cons_cons, List.all_cons, Bool.and_eq_true, decide_eq_true_eq] at h3 ⊢
        exact ⟨h4, h3⟩
/-- rows that _law_list draws: among the keys below n -/
structure Drawn (n : Nat) (rs : List (Int × Int)) : Prop where
  all : ∀ p ∈ rs, Rw p ∧ p.1 < n
  up : rs.Pairwise fun p q => p.1 < q.1
  len : rs.length ≤ n
def HC (c0 c1 c2 c3 c4 c5 : Int) : Prop := (0 < c2 ∧ c2 ≤ 4294967296) ∧ (0 < c4) ∧ (0 < c5 ∧ c5 < 1073741824) ∧ (0 ≤ c0 ∧ c0 ≤ 4294967296) ∧ 0 ≤ c1 ∧ 0 ≤ c3
theorem Drawn.snoc {n : Nat} {rs : List (Int × Int)} (h : Drawn n rs) (hn : n ≤ 9) {r : Int} (hr : 0 ≤ r ∧ r ≤ 5) : Drawn (n + 1) (rs ++ [((n : Int), r)]) := by
  refine ⟨fun p hp => ?_, ?_, ?_⟩
  · rcases List.mem_append.mp hp with hp | hp
    · obtain ⟨h1, h2⟩ := h.all p hp
      exact ⟨h1, by omega⟩
    · have := List.mem_singleton.mp hp
      subst this
      exact ⟨⟨by simp, by simp; omega, hr.1, hr.2⟩, by simp; omega⟩
  · rw [List.pairwise_append]
    refine ⟨h.up, List.pairwise_singleton _ _, fun p hp q hq => ?_⟩
    have := List.mem_singleton.mp hq
    subst this
    exact (h.all p hp).2
  · rw [List.length_append, List.length_singleton]
    have := h.len
    omega
theorem Drawn.keep {n : Nat} {rs : List (Int × Int)} (h : Drawn n rs) : Drawn (n + 1) rs := ⟨fun p hp => ⟨(h.all p hp).1, by have := (h.all p hp).2; omega⟩, h.up, by have := h.len; omega⟩
theorem Drawn.ok {rs : List (Int × Int)} (h : Drawn 10 rs) : RowsOk rs := ⟨h.len, fun p hp => (h.all p hp).1, h.up⟩
def IvList (most high : Int) (done : List Nat) (ρ : Mp.Env) : Prop := ∃ a2 b2 rs s4, ρ = [Sl.own true (cup a2 b2), Sl.val (D.d (.int most)), Sl.val (D.d (.int high)), Sl.own false (D.d (.list (rs.map eR))), s4] ∧ FreeS s4 ∧ Drawn done.length rs ∧ 0 ≤ b2 ∧ b2 ≤ 4294967296
theorem sList {c0 c1 c2 c3 c4 c5 : Int} (h21 : T 21 = some b21) (h19 : T 19 = some b19) (h : T 18 = some (bRoll c0 c1 c2 c3 c4 c5)) (hc : HC c0 c1 c2 c3 c4 c5) (k : Nat) (a b most : Int) (hb : 0 ≤ b ∧ b ≤ 4294967296) :
    ∃ a' b' rs, runs T (k+3) 21 [.ln (cup a b), .sh (.d (.int most))] = .ok (.d (eRs rs)) false [some (cup a' b'), none] ∧ RowsOk rs ∧ 0 ≤ b' ∧ b' ≤ 4294967296 := by
  obtain ⟨a1, b1, hi, e, hm, g1, g2⟩ := sSome h19 h hc k a b [.int 2, .int 3, .int 6] (by simp) (by simp) hb
  have e10 : rngL 0 10 = (List.range 10).map (fun i : Nat => D.d (.int (i : Int))) := rngL_0 10
  have s10 : smallR 10 = true := rfl
  obtain ⟨high, rfl, hh⟩ : ∃ high : Int, hi = .int high ∧ (0 < high ∧ high ≤ 6) := by
    simp at hm
    rcases hm with rfl | rfl | rfl <;> exact ⟨_, rfl, by omega⟩
  rw [runs_eq h21]
  simp [b21, e, s10, e10]
  generalize hf : forL _ _ _ _ = z
  have key : ∃ ρ', z = .nx ρ' ∧ IvList most high (List.range 10) ρ' := by
    rw [← hf]
    refine forL_map (enc := fun i : Nat => D.d (.int (i : Int))) (List.range 10) _ (IvList most high) ⟨a1, b1, [], .un, rfl, .inl rfl, ⟨by simp, .nil, by simp⟩, g1, g2⟩ fun done x rest ρ hs hi => ?_
    obtain ⟨a2, b2, rs, s4, rfl, hfree, hd, g3, g4⟩ := hi
    obtain ⟨rfl, hx⟩ := range_split hs
    refine ⟨[Sl.own true (cup a2 b2), Sl.val (D.d (.int most)), Sl.val (D.d (.int high)), Sl.own false (D.d (.list (rs.map eR))), Sl.val (D.d (.int (done.length : Int)))], by rcases hfree with rfl | ⟨v, rfl⟩ | ⟨v, rfl⟩ <;> simp, ?_⟩
    by_cases hm : (rs.length : Int) < most
    · obtain ⟨a3, b3, r, e3, g5, g6, g7, g8⟩ := sRoll h hc (k + 1) a2 b2 2 (by omega) ⟨g3, g4⟩
      by_cases hr : r = 0
      · subst hr
        obtain ⟨a4, b4, q, e4, g9, g10, g11, g12⟩ := sRoll h hc (k + 1) a3 b3 high (by omega) ⟨g7, g8⟩
        have hlen := hd.len
        refine ⟨[Sl.own true (cup a4 b4), Sl.val (D.d (.int most)), Sl.val (D.d (.int high)), Sl.own false (D.d (.list ((rs ++ [((done.length : Int), q)]).map eR))), Sl.val (D.d (.int (done.length : Int)))], .inl ?_, a4, b4, _, _, rfl, .inr (.inl ⟨_, rfl⟩), by rw [List.length_append, List.length_singleton]; exact hd.snoc (by omega) ⟨g9, by omega⟩, g11, g12⟩
        simp [hm, e3, e4, eR, show rs.length < 16777216 by omega]
      · refine ⟨[Sl.own true (cup a3 b3), Sl.val (D.d (.int most)), Sl.val (D.d (.int high)), Sl.own false (D.d (.list (rs.map eR))), Sl.val (D.d (.int (done.length : Int)))], .inl ?_, a3, b3, _, _, rfl, .inr (.inl ⟨_, rfl⟩), by rw [List.length_append, List.length_singleton]; exact hd.keep, g7, g8⟩
        simp [hm, e3, hr]
    · refine ⟨[Sl.own true (cup a2 b2), Sl.val (D.d (.int most)), Sl.val (D.d (.int high)), Sl.own false (D.d (.list (rs.map eR))), Sl.val (D.d (.int (done.length : Int)))], .inl ?_, a2, b2, _, _, rfl, .inr (.inl ⟨_, rfl⟩), by rw [List.length_append, List.length_singleton]; exact hd.keep, g3, g4⟩
      simp [hm]
  obtain ⟨ρ', e1, a2, b2, rs, s4, rfl, _, hd, g3, g4⟩ := key
  rw [e1]
  refine ⟨a2, b2, rs, ?_, hd.ok, g3, g4⟩
  simp [eRs]
/-- steps -/
inductive St where
  | page | drop (k : Int) | put (k r : Int)
def eS : St → P
  | .page => .tuple [.str sPage]
  | .drop k => .tuple [.str sDrop, .int k]
  | .put k r => .tuple [.str sPut, .int k, .int r]
def eH (h : List St) : P := .tuple (h.map eS)
def StOk : St → Prop
  | .page => True
  | .drop k => 0 ≤ k ∧ k ≤ 9
  | .put k r => (0 ≤ k ∧ k ≤ 9) ∧ 0 ≤ r ∧ r ≤ 5
theorem fitsStep_eS {s : St} (h : StOk s) : fitsStep (eS s) = true := by
  cases s with
  | page => rfl
  | drop k =>
    obtain ⟨h1, h2⟩ := h
    have : sDrop ≠ sPut := by decide
    simp [fitsStep, eS, fitsChange, fitsW, h1, h2, this]
  | put k r =>
    obtain ⟨⟨h1, h2⟩, h3, h4⟩ := h
    simp [fitsStep, eS, fitsChange, fitsRow, fitsW, h1, h2, h3, h4]
theorem fitsHist_eH {h : List St} (hl : h.length ≤ 60) (ha : ∀ s ∈ h, StOk s) : fitsHist (eH h) = true := by
  unfold eH fitsHist
  simp only [List.length_map, Bool.and_eq_true, decide_eq_true_eq]
  refine ⟨hl, ?_⟩
  rw [List.all_eq_true]
  intro v hv
  obtain ⟨p, hp, rfl⟩ := List.mem_map.mp hv
  exact fitsStep_eS (ha p hp)
theorem sChange {c0 c1 c2 c3 c4 c5 : Int} (h22 : T 22 = some b22) (h19 : T 19 = some b19) (h : T 18 = some (bRoll c0 c1 c2 c3 c4 c5)) (hc : HC c0 c1 c2 c3 c4 c5) (k : Nat) (a b : Int) (hb : 0 ≤ b ∧ b ≤ 4294967296) :
    ∃ a' b' s, runs T (k+3) 22 [.ln (cup a b)] = .ok (.d (eS s)) false [some (cup a' b')] ∧ StOk s ∧ 0 ≤ b' ∧ b' ≤ 4294967296 := by
  obtain ⟨a1, b1, r, e1, r1, r2, g1, g2⟩ := sRoll h hc (k + 1) a b 3 (by omega) hb
  by_cases hr : r = 0
  · subst hr
    obtain ⟨a2, b2, q, e2, q1, q2, g3, g4⟩ := sRoll h hc (k + 1) a1 b1 10 (by omega) ⟨g1, g2⟩
    refine ⟨a2, b2, .drop q, ?_, ⟨q1, by omega⟩, g3, g4⟩
    rw [runs_eq h22]
    simp [b22, e1, e2, eS]
  · obtain ⟨a2, b2, q, e2, q1, q2, g3, g4⟩ := sRoll h hc (k + 1) a1 b1 10 (by omega) ⟨g1, g2⟩
    obtain ⟨a3, b3, hi, e3, hm, g5, g6⟩ := sSome h19 h hc k a2 b2 [.int 2, .int 3, .int 6] (by simp) (by simp) ⟨g3, g4⟩
    obtain ⟨high, rfl, hh⟩ : ∃ high : Int, hi = .int high ∧ (0 < high ∧ high ≤ 6) := by
      simp at hm
      rcases hm with rfl | rfl | rfl <;> exact ⟨_, rfl, by omega⟩
    obtain ⟨a4, b4, p, e4, p1, p2, g7, g8⟩ := sRoll h hc (k + 1) a3 b3 high (by omega) ⟨g5, g6⟩
    refine ⟨a4, b4, .put q p, ?_, ⟨⟨q1, by omega⟩, p1, by omega⟩, g7, g8⟩
    rw [runs_eq h22]
    simp [b22, e1, hr, e2, e3, e4, eS]
def IvHist (many : Int) (done : List Nat) (acc : List P) (ρ : Mp.Env) : Prop := ∃ (a2 b2 : Int) (hs : List St), ρ = [Sl.own true (cup a2 b2), Sl.val (D.d (.int many)), Sl.un] ∧ acc = hs.map eS ∧ hs.length = done.length ∧ (∀ s ∈ hs, StOk s) ∧ 0 ≤ b2 ∧ b2 ≤ 4294967296
theorem sHist {c0 c1 c2 c3 c4 c5 : Int} (h23 : T 23 = some b23) (h22 : T 22 = some b22) (h19 : T 19 = some b19) (h : T 18 = some (bRoll c0 c1 c2 c3 c4 c5)) (hc : HC c0 c1 c2 c3 c4 c5) (k : Nat) (a b : Int) (n : Nat) (hn : n ≤ 16777216) (hb : 0 ≤ b ∧ b ≤ 4294967296) :
    ∃ a' b' hs, runs T (k+4) 23 [.ln (cup a b), .sh (.d (.int n))] = .ok (.d (eH hs)) false [some (cup a' b'), none] ∧ hs.length = n ∧ (∀ s ∈ hs, StOk s) ∧ 0 ≤ b' ∧ b' ≤ 4294967296 := by
  have hr : smallR (n : Int) = true := smallR_of (by omega)
  rw [runs_eq h23]
  simp [b23, hr, hn, rngL_0]
  generalize hf : compE _ _ _ _ _ _ = z
  have key : ∃ acc ρ', z = .ok (.fr (.d (.list acc))) (backE [Sl.own true (cup a b), Sl.val (D.d (.int n)), Sl.un] ρ' [2]) ∧ IvHist n (List.range n) acc ρ' := by
    rw [← hf]
    refine compE_iv (fun i : Nat => D.d (.int (i : Int))) (List.range n) (IvHist n) ⟨a, b, [], rfl, rfl, rfl, by simp, hb⟩ fun done x rest acc ρ hs hi => ?_
    obtain ⟨a2, b2, hh, rfl, rfl, hl, ha, g1, g2⟩ := hi
    refine ⟨[Sl.own true (cup a2 b2), Sl.val (D.d (.int n)), Sl.val (D.d (.int (x : Int)))], by simp, .inl ?_⟩
    obtain ⟨a3, b3, r, e1, r1, r2, g3, g4⟩ := sRoll h hc (k + 2) a2 b2 2 (by omega) ⟨g1, g2⟩
    by_cases hr : r = 0
    · subst hr
      refine ⟨_, .sh (.d (eS .page)), [Sl.own true (cup a3 b3), Sl.val (D.d (.int n)), Sl.val (D.d (.int (x : Int)))], eS .page, rfl, ?_, rfl, a3, b3, hh ++ [.page], rfl, by simp, by simp [hl], ?_, g3, g4⟩
      · simp [e1, eS]
      · intro s hs
        rcases List.mem_append.mp hs with hs | hs
        · exact ha s hs
        · rw [List.mem_singleton.mp hs]; trivial
    · obtain ⟨a4, b4, s, e2, hok, g5, g6⟩ := sChange h22 h19 h hc k a3 b3 ⟨g3, g4⟩
      refine ⟨_, .sh (.d (eS s)), [Sl.own true (cup a4 b4), Sl.val (D.d (.int n)), Sl.val (D.d (.int (x : Int)))], eS s, rfl, ?_, rfl, a4, b4, hh ++ [s], rfl, by simp, by simp [hl], ?_, g5, g6⟩
      · simp [e1, hr, e2]
      · intro s' hs
        rcases List.mem_append.mp hs with hs | hs
        · exact ha s' hs
        · rw [List.mem_singleton.mp hs]; exact hok
  obtain ⟨acc, ρ', rfl, a2, b2, hs, rfl, rfl, hl, ha, g1, g2⟩ := key
  refine ⟨a2, b2, hs, ?_, by simpa using hl, ha, g1, g2⟩
  simp [eH]
end
end Lb

set_option maxRecDepth 100000
/-! LD: the shared defs as the compiler reads them (written by lib.py). -/
namespace Lb
open Mp PySem L2
/-- without -/
def b10 : Fd := ⟨2, 2, (.cons (.ret (.bin .add (.sl (.var 0 "items") .no (.yes (.var 1 "at"))) (.sl (.var 0 "items") (.yes (.bin .add (.var 1 "at") (.cst (.int 1)))) .no))) .nil)⟩
/-- lower_row -/
def b11 : Fd := ⟨1, 1, (.cons (.ret (.tup (.cons (.ix (.var 0 "row") (.glob "KEY" (.int 0))) (.cons (.bin .sub (.ix (.var 0 "row") (.glob "RANK" (.int 1))) (.cst (.int 1))) .nil)))) .nil)⟩
/-- shrinks_in -/
def b12 : Fd := ⟨2, 6, (.cons (.set 2 "found" (.comp [("at", 3)] (.nm 3 "at") (.rng (.bi .len (.var 1 "history"))) .no (.tup (.cons (.var 0 "rows") (.cons (.call 10 (.cons (.var 1 "history") (.cons (.var 3 "at") .nil))) .nil))))) (.cons (.aug 2 "found" false (.comp [("at", 3)] (.nm 3 "at") (.rng (.bi .len (.var 0 "rows"))) .no (.tup (.cons (.call 10 (.cons (.var 0 "rows") (.cons (.var 3 "at") .nil))) (.cons (.var 1 "history") .nil))))) (.cons (.forS (.tp [(3, "at"), (4, "row")]) (.enum (.var 0 "rows")) (.cons (.ife (.cmp .gt (.ix (.var 4 "row") (.glob "RANK" (.int 1))) (.cst (.int 0))) (.cons (.app 2 "found" (.tup (.cons (.bin .add (.bin .add (.sl (.var 0 "rows") .no (.yes (.var 3 "at"))) (.tup (.cons (.call 11 (.cons (.var 4 "row") .nil)) .nil))) (.sl (.var 0 "rows") (.yes (.bin .add (.var 3 "at") (.cst (.int 1)))) .no)) (.cons (.var 1 "history") .nil)))) .nil) .nil) .nil)) (.cons (.forS (.tp [(3, "at"), (5, "step")]) (.enum (.var 1 "history")) (.cons (.ife (.bop false (.cons (.cmp .eq (.ix (.var 5 "step") (.cst (.int 0))) (.glob "PUT" (.str "put"))) (.cons (.cmp .gt (.ix (.var 5 "step") (.cst (.int 2))) (.cst (.int 0))) .nil))) (.cons (.app 2 "found" (.tup (.cons (.var 0 "rows") (.cons (.bin .add (.bin .add (.sl (.var 1 "history") .no (.yes (.var 3 "at"))) (.tup (.cons (.bin .add (.sl (.var 5 "step") .no (.yes (.cst (.int 1)))) (.call 11 (.cons (.sl (.var 5 "step") (.yes (.cst (.int 1))) .no) .nil))) .nil))) (.sl (.var 1 "history") (.yes (.bin .add (.var 3 "at") (.cst (.int 1)))) .no)) .nil)))) .nil) .nil) .nil)) (.cons (.ret (.var 2 "found")) .nil)))))⟩
/-- weight_in -/
def b13 : Fd := ⟨2, 5, (.cons (.set 2 "ranks" (.bin .add (.comp [("row", 3)] (.nm 3 "row") (.seq (.var 0 "rows")) .no (.ix (.var 3 "row") (.glob "RANK" (.int 1)))) (.comp [("step", 4)] (.nm 4 "step") (.seq (.var 1 "history")) (.yes (.cmp .eq (.ix (.var 4 "step") (.cst (.int 0))) (.glob "PUT" (.str "put")))) (.ix (.var 4 "step") (.cst (.int 2)))))) (.frz 2 (.cons (.ret (.bin .add (.bin .add (.bi .len (.var 1 "history")) (.bi .len (.var 0 "rows"))) (.bi .sum (.var 2 "ranks")))) .nil)))⟩
/-- need_two -/
def b14 : Fd := ⟨2, 2, (.cons (.expr (.call 5 (.cons (.var 0 "rows") .nil))) (.cons (.ife (.notE (.call 8 (.cons (.var 1 "history") .nil))) (.cons (.raise 1) .nil) .nil) .nil))⟩
/-- weight_of -/
def b15 : Fd := ⟨2, 2, (.cons (.expr (.call 14 (.cons (.var 0 "rows") (.cons (.var 1 "history") .nil)))) (.cons (.ret (.call 13 (.cons (.var 0 "rows") (.cons (.var 1 "history") .nil)))) .nil))⟩
/-- shrinks_of -/
def b16 : Fd := ⟨2, 2, (.cons (.expr (.call 14 (.cons (.var 0 "rows") (.cons (.var 1 "history") .nil)))) (.cons (.ret (.bi .tuple (.call 12 (.cons (.var 0 "rows") (.cons (.var 1 "history") .nil))))) .nil))⟩
/-- _law_shrinks -/
def b24 : Fd := ⟨2, 6, (.cons (.set 2 "found" (.lst .nil)) (.cons (.forS (.nm 3 "at") (.rng (.bi .len (.var 1 "history"))) (.cons (.app 2 "found" (.tup (.cons (.var 0 "rows") (.cons (.bin .add (.sl (.var 1 "history") .no (.yes (.var 3 "at"))) (.sl (.var 1 "history") (.yes (.bin .add (.var 3 "at") (.cst (.int 1)))) .no)) .nil)))) .nil)) (.cons (.forS (.nm 3 "at") (.rng (.bi .len (.var 0 "rows"))) (.cons (.app 2 "found" (.tup (.cons (.bin .add (.sl (.var 0 "rows") .no (.yes (.var 3 "at"))) (.sl (.var 0 "rows") (.yes (.bin .add (.var 3 "at") (.cst (.int 1)))) .no)) (.cons (.var 1 "history") .nil)))) .nil)) (.cons (.forS (.nm 3 "at") (.rng (.bi .len (.var 0 "rows"))) (.cons (.setT (.tp [(4, "key"), (5, "rank")]) (.ix (.var 0 "rows") (.var 3 "at"))) (.cons (.set 2 "found" (.bin .add (.var 2 "found") (.ife (.cmp .gt (.var 5 "rank") (.cst (.int 0))) (.lst (.cons (.tup (.cons (.bin .add (.bin .add (.sl (.var 0 "rows") .no (.yes (.var 3 "at"))) (.tup (.cons (.tup (.cons (.var 4 "key") (.cons (.bin .sub (.var 5 "rank") (.cst (.int 1))) .nil))) .nil))) (.sl (.var 0 "rows") (.yes (.bin .add (.var 3 "at") (.cst (.int 1)))) .no)) (.cons (.var 1 "history") .nil))) .nil)) (.lst .nil)))) .nil))) (.cons (.forS (.nm 3 "at") (.rng (.bi .len (.var 1 "history"))) (.cons (.ife (.bop false (.cons (.cmp .eq (.ix (.ix (.var 1 "history") (.var 3 "at")) (.cst (.int 0))) (.cst (.str "put"))) (.cons (.cmp .gt (.ix (.ix (.var 1 "history") (.var 3 "at")) (.cst (.int 2))) (.cst (.int 0))) .nil))) (.cons (.app 2 "found" (.tup (.cons (.var 0 "rows") (.cons (.bin .add (.bin .add (.sl (.var 1 "history") .no (.yes (.var 3 "at"))) (.tup (.cons (.tup (.cons (.cst (.str "put")) (.cons (.ix (.ix (.var 1 "history") (.var 3 "at")) (.cst (.int 1))) (.cons (.bin .sub (.ix (.ix (.var 1 "history") (.var 3 "at")) (.cst (.int 2))) (.cst (.int 1))) .nil)))) .nil))) (.sl (.var 1 "history") (.yes (.bin .add (.var 3 "at") (.cst (.int 1)))) .no)) .nil)))) .nil) .nil) .nil)) (.cons (.ret (.var 2 "found")) .nil))))))⟩
/-- _law_weight -/
def b25 : Fd := ⟨2, 6, (.cons (.set 2 "found" (.bin .add (.bin .add (.bi .len (.var 1 "history")) (.bi .len (.var 0 "rows"))) (.bi .sum (.comp [("key", 3), ("rank", 4)] (.tp [(3, "key"), (4, "rank")]) (.seq (.var 0 "rows")) .no (.var 4 "rank"))))) (.cons (.ret (.bin .add (.var 2 "found") (.bi .sum (.comp [("step", 5)] (.nm 5 "step") (.seq (.var 1 "history")) (.yes (.cmp .eq (.ix (.var 5 "step") (.cst (.int 0))) (.cst (.str "put")))) (.ix (.var 5 "step") (.cst (.int 2))))))) .nil))⟩
/-- fits_late_row -/
def b27 : Fd := ⟨1, 1, (.cons (.ife (.bop true (.cons (.notE (.call 0 (.cons (.var 0 "value") (.cons (.cst (.int 3)) (.cons (.cst (.int 3)) .nil))))) (.cons (.notE (.call 1 (.cons (.ix (.var 0 "value") (.glob "KEY" (.int 0))) (.cons (.cst (.int 0)) (.cons (.bin .sub (.glob "KEYS" (.int 10)) (.cst (.int 1))) .nil))))) .nil))) (.cons (.ret (.cst (.bool false))) .nil) .nil) (.cons (.ret (.bop false (.cons (.call 1 (.cons (.ix (.var 0 "value") (.glob "STAMP" (.int 1))) (.cons (.cst (.int 0)) (.cons (.bin .sub (.glob "RANKS" (.int 6)) (.cst (.int 1))) .nil)))) (.cons (.call 1 (.cons (.ix (.var 0 "value") (.glob "WAIT" (.int 2))) (.cons (.cst (.int 0)) (.cons (.bin .sub (.glob "WAITS" (.int 6)) (.cst (.int 1))) .nil)))) .nil)))) .nil))⟩
/-- fits_late -/
def b28 : Fd := ⟨1, 4, (.cons (.ife (.bop true (.cons (.notE (.call 0 (.cons (.var 0 "value") (.cons (.cst (.int 0)) (.cons (.glob "KEYS" (.int 10)) .nil))))) (.cons (.notE (.bi .all (.comp [("own", 1)] (.nm 1 "own") (.seq (.var 0 "value")) .no (.call 27 (.cons (.var 1 "own") .nil))))) .nil))) (.cons (.ret (.cst (.bool false))) .nil) .nil) (.cons (.ret (.bi .all (.comp [("one", 2), ("other", 3)] (.tp [(2, "one"), (3, "other")]) (.zip (.var 0 "value") (.sl (.var 0 "value") (.yes (.cst (.int 1))) .no)) .no (.cmp .lt (.ix (.var 2 "one") (.glob "KEY" (.int 0))) (.ix (.var 3 "other") (.glob "KEY" (.int 0))))))) .nil))⟩
/-- fits_polls -/
def b29 : Fd := ⟨1, 4, (.cons (.ife (.bop true (.cons (.notE (.call 0 (.cons (.var 0 "value") (.cons (.cst (.int 0)) (.cons (.glob "POLLS" (.int 40)) .nil))))) (.cons (.notE (.bi .all (.comp [("own", 1)] (.nm 1 "own") (.seq (.var 0 "value")) .no (.call 1 (.cons (.var 1 "own") (.cons (.cst (.int 0)) (.cons (.glob "CLOCK" (.int 10)) .nil))))))) .nil))) (.cons (.ret (.cst (.bool false))) .nil) .nil) (.cons (.ret (.bi .all (.comp [("one", 2), ("other", 3)] (.tp [(2, "one"), (3, "other")]) (.zip (.var 0 "value") (.sl (.var 0 "value") (.yes (.cst (.int 1))) .no)) .no (.cmp .le (.var 2 "one") (.var 3 "other"))))) .nil))⟩
/-- time_in -/
def b30 : Fd := ⟨2, 2, (.cons (.ret (.bin .add (.ix (.var 0 "row") (.glob "STAMP" (.int 1))) (.mx true (.ix (.var 0 "row") (.glob "WAIT" (.int 2))) (.var 1 "lag")))) .nil)⟩
/-- seen_in -/
def b31 : Fd := ⟨3, 4, (.cons (.ret (.bi .tuple (.comp [("row", 3)] (.nm 3 "row") (.seq (.var 0 "rows")) (.yes (.cmp .le (.call 30 (.cons (.var 3 "row") (.cons (.var 1 "lag") .nil))) (.var 2 "clock"))) (.sl (.var 3 "row") .no (.yes (.glob "WAIT" (.int 2))))))) .nil)⟩
/-- need_late -/
def b32 : Fd := ⟨1, 1, (.cons (.ife (.notE (.call 28 (.cons (.var 0 "value") .nil))) (.cons (.raise 0) .nil) .nil) .nil)⟩
/-- need_lag -/
def b33 : Fd := ⟨1, 1, (.cons (.ife (.notE (.call 1 (.cons (.var 0 "value") (.cons (.cst (.int 0)) (.cons (.bin .sub (.glob "WAITS" (.int 6)) (.cst (.int 1))) .nil))))) (.cons (.raise 4) .nil) .nil) .nil)⟩
/-- need_polls -/
def b34 : Fd := ⟨1, 1, (.cons (.ife (.notE (.call 29 (.cons (.var 0 "value") .nil))) (.cons (.raise 1) .nil) .nil) .nil)⟩
/-- seen_from -/
def b37 : Fd := ⟨2, 2, (.cons (.ife (.notE (.call 27 (.cons (.var 0 "row") .nil))) (.cons (.raise 0) .nil) .nil) (.cons (.expr (.call 33 (.cons (.var 1 "lag") .nil))) (.cons (.ret (.call 30 (.cons (.var 0 "row") (.cons (.var 1 "lag") .nil)))) .nil)))⟩
/-- list_at_clock -/
def b38 : Fd := ⟨3, 3, (.cons (.expr (.call 32 (.cons (.var 0 "rows") .nil))) (.cons (.expr (.call 33 (.cons (.var 1 "lag") .nil))) (.cons (.ife (.notE (.call 1 (.cons (.var 2 "clock") (.cons (.cst (.int 0)) (.cons (.glob "CLOCK" (.int 10)) .nil))))) (.cons (.raise 4) .nil) .nil) (.cons (.ret (.call 31 (.cons (.var 0 "rows") (.cons (.var 1 "lag") (.cons (.var 2 "clock") .nil))))) .nil))))⟩
/-- late_history -/
def b39 : Fd := ⟨3, 11, (.cons (.expr (.call 32 (.cons (.var 0 "rows") .nil))) (.cons (.expr (.call 33 (.cons (.var 1 "lag") .nil))) (.cons (.expr (.call 34 (.cons (.var 2 "polls") .nil))) (.cons (.setP [(3, "waiting"), (4, "found")] (.cons (.bi .sorted (.comp [("row", 5)] (.nm 5 "row") (.seq (.var 0 "rows")) .no (.tup (.cons (.call 30 (.cons (.var 5 "row") (.cons (.var 1 "lag") .nil))) (.cons (.ix (.var 5 "row") (.glob "KEY" (.int 0))) (.cons (.ix (.var 5 "row") (.glob "STAMP" (.int 1))) .nil)))))) (.cons (.tup .nil) .nil))) (.frz 3 (.cons (.forS (.nm 6 "clock") (.seq (.var 2 "polls")) (.cons (.set 4 "found" (.bin .add (.bin .add (.var 4 "found") (.bi .tuple (.comp [("time", 7), ("key", 8), ("stamp", 9)] (.tp [(7, "time"), (8, "key"), (9, "stamp")]) (.seq (.var 3 "waiting")) (.yes (.cmp .le (.var 7 "time") (.var 6 "clock"))) (.tup (.cons (.glob "PUT" (.str "put")) (.cons (.var 8 "key") (.cons (.var 9 "stamp") .nil))))))) (.tup (.cons (.glob "PAGE" (.tuple [(.str "page")])) .nil)))) (.cons (.set 3 "waiting" (.comp [("own", 10)] (.nm 10 "own") (.seq (.var 3 "waiting")) (.yes (.cmp .gt (.ix (.var 10 "own") (.cst (.int 0))) (.var 6 "clock"))) (.var 10 "own"))) .nil))) (.cons (.ret (.var 4 "found")) .nil)))))))⟩
/-- _law_late -/
def b40 : Fd := ⟨2, 6, (.cons (.setP [(2, "high"), (3, "wide"), (4, "found")] (.cons (.call 19 (.cons (.var 0 "cup") (.cons (.lst (.cons (.cst (.int 1)) (.cons (.cst (.int 3)) (.cons (.cst (.int 6)) .nil)))) .nil))) (.cons (.call 19 (.cons (.var 0 "cup") (.cons (.lst (.cons (.cst (.int 1)) (.cons (.cst (.int 3)) (.cons (.cst (.int 6)) .nil)))) .nil))) (.cons (.lst .nil) .nil)))) (.frz 2 (.frz 3 (.cons (.forS (.nm 5 "key") (.rng (.cst (.int 10))) (.cons (.ife (.bop false (.cons (.cmp .lt (.bi .len (.var 4 "found")) (.var 1 "most")) (.cons (.cmp .eq (.call 18 (.cons (.var 0 "cup") (.cons (.cst (.int 2)) .nil))) (.cst (.int 0))) .nil))) (.cons (.app 4 "found" (.tup (.cons (.var 5 "key") (.cons (.call 18 (.cons (.var 0 "cup") (.cons (.var 2 "high") .nil))) (.cons (.call 18 (.cons (.var 0 "cup") (.cons (.var 3 "wide") .nil))) .nil))))) .nil) .nil) .nil)) (.frz 4 (.cons (.ret (.bi .tuple (.var 4 "found"))) .nil))))))⟩
/-- _law_from -/
def b41 : Fd := ⟨2, 2, (.cons (.ret (.bin .add (.ix (.var 0 "row") (.cst (.int 1))) (.ife (.cmp .gt (.ix (.var 0 "row") (.cst (.int 2))) (.var 1 "lag")) (.ix (.var 0 "row") (.cst (.int 2))) (.var 1 "lag")))) .nil)⟩
/-- _law_polls -/
def b42 : Fd := ⟨2, 3, (.cons (.ret (.bi .tuple (.bi .sorted (.comp [("turn", 2)] (.nm 2 "turn") (.rng (.var 1 "many")) .no (.call 18 (.cons (.var 0 "cup") (.cons (.cst (.int 11)) .nil))))))) .nil)⟩
/-- rank_of -/
def b47 : Fd := ⟨2, 4, (.cons (.expr (.call 5 (.cons (.var 0 "rows") .nil))) (.cons (.ife (.notE (.call 1 (.cons (.var 1 "key") (.cons (.cst (.int 0)) (.cons (.bin .sub (.glob "KEYS" (.int 10)) (.cst (.int 1))) .nil))))) (.cons (.raise 4) .nil) .nil) (.cons (.set 2 "ranks" (.comp [("own", 3)] (.nm 3 "own") (.seq (.var 0 "rows")) (.yes (.cmp .eq (.ix (.var 3 "own") (.glob "KEY" (.int 0))) (.var 1 "key"))) (.ix (.var 3 "own") (.glob "RANK" (.int 1))))) (.frz 2 (.cons (.ret (.ife (.cmp .ne (.var 2 "ranks") (.lst .nil)) (.ix (.var 2 "ranks") (.cst (.int 0))) (.cst .none))) .nil)))))⟩
/-- changed_in -/
def b49 : Fd := ⟨2, 4, (.cons (.set 2 "others" (.comp [("own", 3)] (.nm 3 "own") (.seq (.var 0 "rows")) (.yes (.cmp .ne (.ix (.var 3 "own") (.glob "KEY" (.int 0))) (.ix (.var 1 "change") (.cst (.int 1))))) (.var 3 "own"))) (.frz 2 (.cons (.ret (.bi .tuple (.bi .sorted (.bin .add (.var 2 "others") (.ife (.cmp .eq (.ix (.var 1 "change") (.cst (.int 0))) (.cst (.str "put"))) (.lst (.cons (.sl (.var 1 "change") (.yes (.cst (.int 1))) .no) .nil)) (.lst .nil)))))) .nil)))⟩
/-- keys_in -/
def b50 : Fd := ⟨1, 2, (.cons (.ret (.comp [("own", 1)] (.nm 1 "own") (.seq (.var 0 "rows")) .no (.ix (.var 1 "own") (.glob "KEY" (.int 0))))) .nil)⟩
/-- change_kind_in -/
def b51 : Fd := ⟨2, 2, (.cons (.ife (.cmp .eq (.call 49 (.cons (.var 0 "rows") (.cons (.var 1 "change") .nil))) (.var 0 "rows")) (.cons (.ret (.cst (.str "idle"))) .nil) .nil) (.cons (.ife (.cmp .eq (.ix (.var 1 "change") (.cst (.int 0))) (.cst (.str "drop"))) (.cons (.ret (.cst (.str "drops"))) .nil) .nil) (.cons (.ret (.ife (.cmp .in_ (.ix (.var 1 "change") (.cst (.int 1))) (.call 50 (.cons (.var 0 "rows") .nil))) (.cst (.str "moves")) (.cst (.str "adds")))) .nil)))⟩
/-- need_change -/
def b52 : Fd := ⟨1, 1, (.cons (.ife (.notE (.call 4 (.cons (.var 0 "value") .nil))) (.cons (.raise 5) .nil) .nil) .nil)⟩
/-- changed -/
def b53 : Fd := ⟨2, 2, (.cons (.expr (.call 5 (.cons (.var 0 "rows") .nil))) (.cons (.expr (.call 52 (.cons (.var 1 "change") .nil))) (.cons (.ret (.call 49 (.cons (.var 0 "rows") (.cons (.var 1 "change") .nil)))) .nil)))⟩
/-- change_kind -/
def b54 : Fd := ⟨2, 2, (.cons (.expr (.call 5 (.cons (.var 0 "rows") .nil))) (.cons (.expr (.call 52 (.cons (.var 1 "change") .nil))) (.cons (.ret (.call 51 (.cons (.var 0 "rows") (.cons (.var 1 "change") .nil)))) .nil)))⟩
/-- undoing -/
def b56 : Fd := ⟨2, 4, (.cons (.expr (.call 5 (.cons (.var 0 "rows") .nil))) (.cons (.expr (.call 52 (.cons (.var 1 "change") .nil))) (.cons (.set 2 "there" (.comp [("own", 3)] (.nm 3 "own") (.seq (.var 0 "rows")) (.yes (.cmp .eq (.ix (.var 3 "own") (.glob "KEY" (.int 0))) (.ix (.var 1 "change") (.cst (.int 1))))) (.var 3 "own"))) (.frz 2 (.cons (.ife (.cmp .eq (.call 51 (.cons (.var 0 "rows") (.cons (.var 1 "change") .nil))) (.cst (.str "idle"))) (.cons (.ret (.cst .none)) .nil) .nil) (.cons (.ret (.ife (.cmp .ne (.var 2 "there") (.lst .nil)) (.bin .add (.tup (.cons (.cst (.str "put")) .nil)) (.ix (.var 2 "there") (.cst (.int 0)))) (.tup (.cons (.cst (.str "drop")) (.cons (.ix (.var 1 "change") (.cst (.int 1))) .nil))))) .nil))))))⟩
/-- lists_along_in -/
def b59 : Fd := ⟨2, 4, (.cons (.set 2 "found" (.lst (.cons (.var 0 "rows") .nil))) (.cons (.forS (.nm 3 "change") (.seq (.var 1 "changes")) (.cons (.app 2 "found" (.call 49 (.cons (.ix (.var 2 "found") (.neg (.cst (.int 1)))) (.cons (.var 3 "change") .nil)))) .nil)) (.cons (.ret (.var 2 "found")) .nil)))⟩
/-- steady_in -/
def b60 : Fd := ⟨1, 3, (.cons (.ret (.comp [("own", 1)] (.nm 1 "own") (.seq (.ix (.var 0 "lists") (.cst (.int 0)))) (.yes (.bi .all (.comp [("rows", 2)] (.nm 2 "rows") (.seq (.var 0 "lists")) .no (.cmp .in_ (.var 1 "own") (.var 2 "rows"))))) (.var 1 "own"))) .nil)⟩
/-- staying_in -/
def b61 : Fd := ⟨1, 3, (.cons (.ret (.comp [("key", 1)] (.nm 1 "key") (.seq (.call 50 (.cons (.ix (.var 0 "lists") (.cst (.int 0))) .nil))) (.yes (.bi .all (.comp [("rows", 2)] (.nm 2 "rows") (.seq (.var 0 "lists")) .no (.cmp .in_ (.var 1 "key") (.call 50 (.cons (.var 2 "rows") .nil)))))) (.var 1 "key"))) .nil)⟩
/-- need_changes -/
def b62 : Fd := ⟨1, 2, (.cons (.ife (.bop true (.cons (.notE (.call 0 (.cons (.var 0 "value") (.cons (.cst (.int 0)) (.cons (.cst (.int 40)) .nil))))) (.cons (.notE (.bi .all (.comp [("own", 1)] (.nm 1 "own") (.seq (.var 0 "value")) .no (.call 4 (.cons (.var 1 "own") .nil))))) .nil))) (.cons (.raise 5) .nil) .nil) .nil)⟩
/-- lists_along -/
def b63 : Fd := ⟨2, 2, (.cons (.expr (.call 5 (.cons (.var 0 "rows") .nil))) (.cons (.expr (.call 62 (.cons (.var 1 "changes") .nil))) (.cons (.ret (.bi .tuple (.call 59 (.cons (.var 0 "rows") (.cons (.var 1 "changes") .nil))))) .nil)))⟩
/-- steady_rows -/
def b64 : Fd := ⟨2, 2, (.cons (.expr (.call 5 (.cons (.var 0 "rows") .nil))) (.cons (.expr (.call 62 (.cons (.var 1 "changes") .nil))) (.cons (.ret (.bi .tuple (.call 60 (.cons (.call 59 (.cons (.var 0 "rows") (.cons (.var 1 "changes") .nil))) .nil)))) .nil)))⟩
/-- staying_keys -/
def b65 : Fd := ⟨2, 2, (.cons (.expr (.call 5 (.cons (.var 0 "rows") .nil))) (.cons (.expr (.call 62 (.cons (.var 1 "changes") .nil))) (.cons (.ret (.bi .tuple (.call 61 (.cons (.call 59 (.cons (.var 0 "rows") (.cons (.var 1 "changes") .nil))) .nil)))) .nil)))⟩
/-- place_of -/
def b70 : Fd := ⟨2, 2, (.cons (.ret (.ife (.cmp .eq (.var 0 "order") (.glob "BY_KEY" (.int 0))) (.tup (.cons (.ix (.var 1 "row") (.glob "KEY" (.int 0))) .nil)) (.tup (.cons (.ix (.var 1 "row") (.glob "RANK" (.int 1))) (.cons (.ix (.var 1 "row") (.glob "KEY" (.int 0))) .nil))))) .nil)⟩
/-- ordered_in -/
def b71 : Fd := ⟨2, 2, (.cons (.ret (.bi .tuple (.sortK "row" [(0, "order")] (.call 70 (.cons (.var 1 "order") (.cons (.var 0 "row") .nil))) (.var 1 "rows")))) .nil)⟩
/-- need_order -/
def b72 : Fd := ⟨1, 1, (.cons (.ife (.notE (.call 1 (.cons (.var 0 "value") (.cons (.cst (.int 0)) (.cons (.cst (.int 1)) .nil))))) (.cons (.raise 4) .nil) .nil) .nil)⟩
/-- need_row -/
def b73 : Fd := ⟨1, 1, (.cons (.ife (.notE (.call 2 (.cons (.var 0 "value") .nil))) (.cons (.raise 0) .nil) .nil) .nil)⟩
/-- ordered -/
def b74 : Fd := ⟨2, 2, (.cons (.expr (.call 72 (.cons (.var 0 "order") .nil))) (.cons (.expr (.call 5 (.cons (.var 1 "rows") .nil))) (.cons (.ret (.call 71 (.cons (.var 0 "order") (.cons (.var 1 "rows") .nil)))) .nil)))⟩
/-- is_ahead -/
def b75 : Fd := ⟨3, 3, (.cons (.expr (.call 72 (.cons (.var 0 "order") .nil))) (.cons (.expr (.call 73 (.cons (.var 1 "one") .nil))) (.cons (.expr (.call 73 (.cons (.var 2 "other") .nil))) (.cons (.ret (.cmp .lt (.call 70 (.cons (.var 0 "order") (.cons (.var 1 "one") .nil))) (.call 70 (.cons (.var 0 "order") (.cons (.var 2 "other") .nil))))) .nil))))⟩
/-- rows_ahead -/
def b76 : Fd := ⟨3, 4, (.cons (.expr (.call 72 (.cons (.var 0 "order") .nil))) (.cons (.expr (.call 5 (.cons (.var 1 "rows") .nil))) (.cons (.expr (.call 73 (.cons (.var 2 "row") .nil))) (.cons (.ret (.bi .len (.comp [("own", 3)] (.nm 3 "own") (.seq (.var 1 "rows")) (.yes (.cmp .lt (.call 70 (.cons (.var 0 "order") (.cons (.var 3 "own") .nil))) (.call 70 (.cons (.var 0 "order") (.cons (.var 2 "row") .nil))))) (.var 3 "own")))) .nil))))⟩
/-- ties_of -/
def b77 : Fd := ⟨2, 3, (.cons (.expr (.call 5 (.cons (.var 0 "rows") .nil))) (.cons (.ife (.notE (.call 1 (.cons (.var 1 "rank") (.cons (.cst (.int 0)) (.cons (.cst (.int 5)) .nil))))) (.cons (.raise 4) .nil) .nil) (.cons (.ret (.bi .tuple (.comp [("own", 2)] (.nm 2 "own") (.seq (.var 0 "rows")) (.yes (.cmp .eq (.ix (.var 2 "own") (.glob "RANK" (.int 1))) (.var 1 "rank"))) (.var 2 "own")))) .nil)))⟩
/-- _law_place -/
def b78 : Fd := ⟨2, 2, (.cons (.ret (.ife (.cmp .eq (.var 0 "order") (.cst (.int 0))) (.tup (.cons (.ix (.var 1 "row") (.cst (.int 0))) .nil)) (.tup (.cons (.ix (.var 1 "row") (.cst (.int 1))) (.cons (.ix (.var 1 "row") (.cst (.int 0))) .nil))))) .nil)⟩
/-- mark_of -/
def b80 : Fd := ⟨3, 3, (.cons (.ret (.ife (.cmp .eq (.var 1 "mark") (.cst (.int 2))) (.call 70 (.cons (.var 0 "order") (.cons (.var 2 "row") .nil))) (.sl (.call 70 (.cons (.var 0 "order") (.cons (.var 2 "row") .nil))) .no (.yes (.cst (.int 1)))))) .nil)⟩
/-- begin_in -/
def b81 : Fd := ⟨5, 9, (.cons (.setP [(5, "due"), (6, "found")] (.cons (.call 80 (.cons (.var 0 "order") (.cons (.var 1 "mark") (.cons (.var 3 "row") .nil)))) (.cons (.cst (.int 0)) .nil))) (.frz 5 (.cons (.forS (.nm 7 "own") (.seq (.call 71 (.cons (.var 0 "order") (.cons (.var 4 "rows") .nil)))) (.cons (.set 8 "there" (.call 80 (.cons (.var 0 "order") (.cons (.var 1 "mark") (.cons (.var 7 "own") .nil))))) (.frz 8 (.cons (.ife (.bop true (.cons (.cmp .lt (.var 8 "there") (.var 5 "due")) (.cons (.bop false (.cons (.cmp .eq (.var 8 "there") (.var 5 "due")) (.cons (.cmp .eq (.var 2 "same") (.cst (.int 0))) .nil))) .nil))) (.cons (.aug 6 "found" false (.cst (.int 1))) .nil) .nil) .nil)))) (.cons (.ret (.var 6 "found")) .nil))))⟩
/-- begin_of_page -/
def b82 : Fd := ⟨5, 5, (.cons (.expr (.call 72 (.cons (.var 0 "order") .nil))) (.cons (.ife (.bop true (.cons (.notE (.call 1 (.cons (.var 1 "mark") (.cons (.cst (.int 1)) (.cons (.cst (.int 2)) .nil))))) (.cons (.notE (.call 1 (.cons (.var 2 "same") (.cons (.cst (.int 0)) (.cons (.cst (.int 1)) .nil))))) .nil))) (.cons (.raise 4) .nil) .nil) (.cons (.expr (.call 73 (.cons (.var 3 "row") .nil))) (.cons (.expr (.call 5 (.cons (.var 4 "rows") .nil))) (.cons (.ret (.call 81 (.cons (.var 0 "order") (.cons (.var 1 "mark") (.cons (.var 2 "same") (.cons (.var 3 "row") (.cons (.var 4 "rows") .nil))))))) .nil)))))⟩
/-- _law_ordered -/
def b83 : Fd := ⟨2, 2, (.cons (.ret (.sortK "row" [(0, "order")] (.call 78 (.cons (.var 1 "order") (.cons (.var 0 "row") .nil))) (.var 1 "rows"))) .nil)⟩
/-- need_size -/
def b85 : Fd := ⟨1, 1, (.cons (.ife (.notE (.call 1 (.cons (.var 0 "value") (.cons (.cst (.int 1)) (.cons (.glob "SIZE" (.int 3)) .nil))))) (.cons (.raise 4) .nil) .nil) .nil)⟩
/-- page_from -/
def b86 : Fd := ⟨4, 4, (.cons (.expr (.call 72 (.cons (.var 0 "order") .nil))) (.cons (.expr (.call 5 (.cons (.var 1 "rows") .nil))) (.cons (.ife (.notE (.call 1 (.cons (.var 2 "number") (.cons (.cst (.int 0)) (.cons (.cst (.int 1000)) .nil))))) (.cons (.raise 4) .nil) .nil) (.cons (.expr (.call 85 (.cons (.var 3 "size") .nil))) (.cons (.ret (.sl (.call 71 (.cons (.var 0 "order") (.cons (.var 1 "rows") .nil))) (.yes (.var 2 "number")) (.yes (.bin .add (.var 2 "number") (.var 3 "size"))))) .nil)))))⟩
/-- all_pages -/
def b87 : Fd := ⟨3, 5, (.cons (.expr (.call 72 (.cons (.var 0 "order") .nil))) (.cons (.expr (.call 5 (.cons (.var 1 "rows") .nil))) (.cons (.expr (.call 85 (.cons (.var 2 "size") .nil))) (.cons (.set 3 "row" (.call 71 (.cons (.var 0 "order") (.cons (.var 1 "rows") .nil)))) (.frz 3 (.cons (.ret (.bi .tuple (.comp [("at", 4)] (.nm 4 "at") (.rng3 (.cst (.int 0)) (.bin .add (.bi .len (.var 3 "row")) (.cst (.int 1))) (.var 2 "size")) .no (.sl (.var 3 "row") (.yes (.var 4 "at")) (.yes (.bin .add (.var 4 "at") (.var 2 "size"))))))) .nil))))))⟩
/-- fits_table -/
def b92 : Fd := ⟨1, 3, (.cons (.ife (.notE (.call 0 (.cons (.var 0 "value") (.cons (.bi .len (.glob "MOST" (.tuple [(.int 1), (.int 2), (.int 1), (.int 1), (.int 1), (.int 2)]))) (.cons (.bi .len (.glob "MOST" (.tuple [(.int 1), (.int 2), (.int 1), (.int 1), (.int 1), (.int 2)]))) .nil))))) (.cons (.ret (.cst (.bool false))) .nil) .nil) (.cons (.ret (.bi .all (.comp [("own", 1), ("most", 2)] (.tp [(1, "own"), (2, "most")]) (.zip (.var 0 "value") (.glob "MOST" (.tuple [(.int 1), (.int 2), (.int 1), (.int 1), (.int 1), (.int 2)]))) .no (.call 1 (.cons (.var 1 "own") (.cons (.cst (.int 0)) (.cons (.var 2 "most") .nil))))))) .nil))⟩
/-- begun -/
def b93 : Fd := ⟨1, 1, (.cons (.ret (.tup (.cons (.var 0 "rows") (.cons (.cst .none) (.cons (.tup .nil) (.cons (.cst (.int 0)) (.cons (.cst .none) (.cons (.cst (.int 0)) .nil)))))))) .nil)⟩
/-- fits_reading -/
def b94 : Fd := ⟨1, 2, (.cons (.ife (.bop true (.cons (.notE (.call 0 (.cons (.var 0 "value") (.cons (.cst (.int 6)) (.cons (.cst (.int 6)) .nil))))) (.cons (.notE (.call 3 (.cons (.ix (.var 0 "value") (.glob "NOW" (.int 0))) .nil))) .nil))) (.cons (.ret (.cst (.bool false))) .nil) .nil) (.cons (.ife (.bop true (.cons (.notE (.call 0 (.cons (.ix (.var 0 "value") (.glob "GOT" (.int 2))) (.cons (.cst (.int 0)) (.cons (.glob "FAR" (.int 400)) .nil))))) (.cons (.notE (.bi .all (.comp [("own", 1)] (.nm 1 "own") (.seq (.ix (.var 0 "value") (.glob "GOT" (.int 2)))) .no (.call 2 (.cons (.var 1 "own") .nil))))) .nil))) (.cons (.ret (.cst (.bool false))) .nil) .nil) (.cons (.ife (.bop true (.cons (.notE (.call 1 (.cons (.ix (.var 0 "value") (.glob "SENT" (.int 3))) (.cons (.cst (.int 0)) (.cons (.glob "FAR" (.int 400)) .nil))))) (.cons (.notE (.call 1 (.cons (.ix (.var 0 "value") (.glob "OVER" (.int 5))) (.cons (.cst (.int 0)) (.cons (.cst (.int 1)) .nil))))) .nil))) (.cons (.ret (.cst (.bool false))) .nil) .nil) (.cons (.ife (.cmp .is (.ix (.var 0 "value") (.glob "FIRST" (.int 1))) (.cst .none)) (.cons (.ret (.cmp .eq (.sl (.var 0 "value") (.yes (.cst (.int 2))) .no) (.tup (.cons (.tup .nil) (.cons (.cst (.int 0)) (.cons (.cst .none) (.cons (.cst (.int 0)) .nil))))))) .nil) .nil) (.cons (.ret (.bop false (.cons (.call 3 (.cons (.ix (.var 0 "value") (.glob "FIRST" (.int 1))) .nil)) (.cons (.bop true (.cons (.cmp .is (.ix (.var 0 "value") (.glob "LAST" (.int 4))) (.cst .none)) (.cons (.call 2 (.cons (.ix (.var 0 "value") (.glob "LAST" (.int 4))) .nil)) .nil))) .nil)))) .nil)))))⟩
/-- need_table -/
def b95 : Fd := ⟨1, 1, (.cons (.ife (.notE (.call 92 (.cons (.var 0 "value") .nil))) (.cons (.raise 7) .nil) .nil) .nil)⟩
/-- is_table -/
def b96 : Fd := ⟨1, 1, (.cons (.ret (.call 92 (.cons (.var 0 "value") .nil))) .nil)⟩
/-- is_reading -/
def b97 : Fd := ⟨1, 1, (.cons (.ret (.call 94 (.cons (.var 0 "value") .nil))) .nil)⟩
/-- first_reading -/
def b100 : Fd := ⟨1, 1, (.cons (.expr (.call 5 (.cons (.var 0 "rows") .nil))) (.cons (.ret (.call 93 (.cons (.var 0 "rows") .nil))) .nil))⟩
/-- all_tables -/
def b101 : Fd := ⟨0, 4, (.cons (.set 0 "found" (.lst (.cons (.tup .nil) .nil))) (.frz 0 (.cons (.forS (.nm 1 "most") (.seq (.glob "MOST" (.tuple [(.int 1), (.int 2), (.int 1), (.int 1), (.int 1), (.int 2)]))) (.frz 0 (.cons (.set 0 "found" (.comp2 [("row", 2), ("own", 3)] [3] (.nm 2 "row") (.seq (.var 0 "found")) .no (.nm 3 "own") (.rng (.bin .add (.var 1 "most") (.cst (.int 1)))) .no (.bin .add (.var 2 "row") (.tup (.cons (.var 3 "own") .nil))))) .nil))) (.cons (.ret (.bi .tuple (.var 0 "found"))) .nil))))⟩
/-- _law_table -/
def b102 : Fd := ⟨1, 2, (.cons (.ret (.bi .tuple (.comp [("at", 1)] (.nm 1 "at") (.rng (.cst (.int 6))) .no (.call 18 (.cons (.var 0 "cup") (.cons (.ife (.cmp .in_ (.var 1 "at") (.tup (.cons (.cst (.int 1)) (.cons (.cst (.int 5)) .nil)))) (.cst (.int 3)) (.cst (.int 2))) .nil)))))) .nil)⟩
/-- view_in -/
def b104 : Fd := ⟨2, 3, (.cons (.set 2 "rows" (.ife (.bop false (.cons (.cmp .eq (.ix (.var 0 "table") (.glob "VIEW" (.int 3))) (.cst (.int 1))) (.cons (.cmp .isnot (.ix (.var 1 "reading") (.glob "FIRST" (.int 1))) (.cst .none)) .nil))) (.ix (.var 1 "reading") (.glob "FIRST" (.int 1))) (.ix (.var 1 "reading") (.glob "NOW" (.int 0))))) (.cons (.ret (.call 71 (.cons (.ix (.var 0 "table") (.glob "ORDER" (.int 0))) (.cons (.var 2 "rows") .nil)))) .nil))⟩
/-- start_in -/
def b105 : Fd := ⟨2, 4, (.cons (.setP [(2, "rows"), (3, "last")] (.cons (.call 104 (.cons (.var 0 "table") (.cons (.var 1 "reading") .nil))) (.cons (.ix (.var 1 "reading") (.glob "LAST" (.int 4))) .nil))) (.frz 2 (.cons (.ife (.bop true (.cons (.cmp .eq (.ix (.var 0 "table") (.glob "MARK" (.int 1))) (.cst (.int 0))) (.cons (.cmp .is (.var 3 "last") (.cst .none)) .nil))) (.cons (.ret (.ife (.cmp .eq (.ix (.var 0 "table") (.glob "MARK" (.int 1))) (.cst (.int 0))) (.ix (.var 1 "reading") (.glob "SENT" (.int 3))) (.cst (.int 0)))) .nil) .nil) (.cons (.ife (.bop false (.cons (.cmp .notin (.var 3 "last") (.var 2 "rows")) (.cons (.cmp .gt (.ix (.var 0 "table") (.glob "GONE" (.int 5))) (.cst (.int 0))) .nil))) (.cons (.ret (.ife (.cmp .eq (.ix (.var 0 "table") (.glob "GONE" (.int 5))) (.cst (.int 1))) (.cst (.int 0)) (.cst .none))) .nil) .nil) (.cons (.ret (.call 81 (.cons (.ix (.var 0 "table") (.glob "ORDER" (.int 0))) (.cons (.ix (.var 0 "table") (.glob "MARK" (.int 1))) (.cons (.ix (.var 0 "table") (.glob "SAME" (.int 2))) (.cons (.var 3 "last") (.cons (.var 2 "rows") .nil))))))) .nil)))))⟩
/-- page_in -/
def b106 : Fd := ⟨3, 4, (.cons (.set 3 "at" (.call 105 (.cons (.var 0 "table") (.cons (.var 2 "reading") .nil)))) (.frz 3 (.cons (.ret (.ife (.cmp .isnot (.var 3 "at") (.cst .none)) (.sl (.call 104 (.cons (.var 0 "table") (.cons (.var 2 "reading") .nil))) (.yes (.var 3 "at")) (.yes (.bin .add (.var 3 "at") (.var 1 "size")))) (.tup .nil))) .nil)))⟩
/-- new_in -/
def b107 : Fd := ⟨3, 5, (.cons (.set 3 "old" (.ife (.cmp .eq (.ix (.var 0 "table") (.glob "SEEN" (.int 4))) (.cst (.int 1))) (.call 50 (.cons (.ix (.var 1 "reading") (.glob "GOT" (.int 2))) .nil)) (.lst .nil))) (.frz 3 (.cons (.ret (.bi .tuple (.comp [("row", 4)] (.nm 4 "row") (.seq (.var 2 "page")) (.yes (.cmp .notin (.ix (.var 4 "row") (.glob "KEY" (.int 0))) (.var 3 "old"))) (.var 4 "row")))) .nil)))⟩
/-- paged_in -/
def b108 : Fd := ⟨3, 7, (.cons (.ife (.cmp .eq (.ix (.var 2 "reading") (.glob "OVER" (.int 5))) (.cst (.int 1))) (.cons (.ret (.var 2 "reading")) .nil) .nil) (.cons (.set 3 "page" (.call 106 (.cons (.var 0 "table") (.cons (.var 1 "size") (.cons (.var 2 "reading") .nil))))) (.frz 3 (.cons (.set 4 "first" (.ife (.cmp .is (.ix (.var 2 "reading") (.glob "FIRST" (.int 1))) (.cst .none)) (.ix (.var 2 "reading") (.glob "NOW" (.int 0))) (.ix (.var 2 "reading") (.glob "FIRST" (.int 1))))) (.cons (.setP [(5, "got"), (6, "last")] (.cons (.bin .add (.ix (.var 2 "reading") (.glob "GOT" (.int 2))) (.call 107 (.cons (.var 0 "table") (.cons (.var 2 "reading") (.cons (.var 3 "page") .nil))))) (.cons (.ife (.cmp .ne (.var 3 "page") (.tup .nil)) (.ix (.var 3 "page") (.neg (.cst (.int 1)))) (.ix (.var 2 "reading") (.glob "LAST" (.int 4)))) .nil))) (.frz 5 (.cons (.ret (.tup (.cons (.ix (.var 2 "reading") (.glob "NOW" (.int 0))) (.cons (.var 4 "first") (.cons (.var 5 "got") (.cons (.bin .add (.ix (.var 2 "reading") (.glob "SENT" (.int 3))) (.bi .len (.var 3 "page"))) (.cons (.var 6 "last") (.cons (.ife (.cmp .lt (.bi .len (.var 3 "page")) (.var 1 "size")) (.cst (.int 1)) (.cst (.int 0))) .nil)))))))) .nil)))))))⟩
/-- changed_reading -/
def b109 : Fd := ⟨2, 2, (.cons (.ret (.bin .add (.tup (.cons (.call 49 (.cons (.ix (.var 0 "reading") (.glob "NOW" (.int 0))) (.cons (.var 1 "change") .nil))) .nil)) (.sl (.var 0 "reading") (.yes (.cst (.int 1))) .no))) .nil)⟩
/-- need_reading -/
def b110 : Fd := ⟨1, 1, (.cons (.ife (.notE (.call 94 (.cons (.var 0 "value") .nil))) (.cons (.raise 8) .nil) .nil) .nil)⟩
/-- need_three -/
def b111 : Fd := ⟨3, 3, (.cons (.expr (.call 95 (.cons (.var 0 "table") .nil))) (.cons (.expr (.call 85 (.cons (.var 1 "size") .nil))) (.cons (.expr (.call 110 (.cons (.var 2 "reading") .nil))) .nil)))⟩
/-- next_page -/
def b112 : Fd := ⟨3, 3, (.cons (.expr (.call 111 (.cons (.var 0 "table") (.cons (.var 1 "size") (.cons (.var 2 "reading") .nil))))) (.cons (.ret (.ife (.cmp .eq (.ix (.var 2 "reading") (.glob "OVER" (.int 5))) (.cst (.int 0))) (.call 106 (.cons (.var 0 "table") (.cons (.var 1 "size") (.cons (.var 2 "reading") .nil)))) (.tup .nil))) .nil))⟩
/-- rows_got_next -/
def b113 : Fd := ⟨3, 3, (.cons (.expr (.call 111 (.cons (.var 0 "table") (.cons (.var 1 "size") (.cons (.var 2 "reading") .nil))))) (.cons (.ret (.ife (.cmp .eq (.ix (.var 2 "reading") (.glob "OVER" (.int 5))) (.cst (.int 0))) (.call 107 (.cons (.var 0 "table") (.cons (.var 2 "reading") (.cons (.call 106 (.cons (.var 0 "table") (.cons (.var 1 "size") (.cons (.var 2 "reading") .nil)))) .nil)))) (.tup .nil))) .nil))⟩
/-- behind_page -/
def b114 : Fd := ⟨3, 3, (.cons (.expr (.call 111 (.cons (.var 0 "table") (.cons (.var 1 "size") (.cons (.var 2 "reading") .nil))))) (.cons (.ret (.call 108 (.cons (.var 0 "table") (.cons (.var 1 "size") (.cons (.var 2 "reading") .nil))))) .nil))⟩
/-- behind_change -/
def b115 : Fd := ⟨2, 2, (.cons (.expr (.call 110 (.cons (.var 0 "reading") .nil))) (.cons (.expr (.call 52 (.cons (.var 1 "change") .nil))) (.cons (.ret (.call 109 (.cons (.var 0 "reading") (.cons (.var 1 "change") .nil)))) .nil)))⟩
/-- _law_first -/
def b116 : Fd := ⟨0, 0, (.cons (.ret (.tup (.cons (.cst .none) (.cons (.tup .nil) (.cons (.cst (.int 0)) (.cons (.cst .none) (.cons (.cst (.int 0)) .nil))))))) .nil)⟩
/-- _law_page -/
def b117 : Fd := ⟨4, 22, (.cons (.setT (.tp [(4, "order"), (5, "mark"), (6, "same"), (7, "view"), (8, "seen"), (9, "gone")]) (.var 0 "table")) (.cons (.setT (.tp [(10, "first"), (11, "got"), (12, "sent"), (13, "last"), (14, "over")]) (.var 3 "reading")) (.cons (.set 15 "rows" (.call 83 (.cons (.var 4 "order") (.cons (.ife (.bop false (.cons (.cmp .eq (.var 7 "view") (.cst (.int 1))) (.cons (.cmp .isnot (.var 10 "first") (.cst .none)) .nil))) (.var 10 "first") (.var 2 "now")) .nil)))) (.frz 15 (.cons (.ife (.bop true (.cons (.cmp .eq (.var 5 "mark") (.cst (.int 0))) (.cons (.cmp .is (.var 13 "last") (.cst .none)) .nil))) (.cons (.ret (.ife (.cmp .eq (.var 5 "mark") (.cst (.int 0))) (.bi .tuple (.sl (.var 15 "rows") (.yes (.var 12 "sent")) (.yes (.bin .add (.var 12 "sent") (.var 1 "size"))))) (.bi .tuple (.sl (.var 15 "rows") .no (.yes (.var 1 "size")))))) .nil) .nil) (.cons (.ife (.bop false (.cons (.cmp .notin (.var 13 "last") (.var 15 "rows")) (.cons (.cmp .eq (.var 9 "gone") (.cst (.int 2))) .nil))) (.cons (.ret (.tup .nil)) .nil) .nil) (.cons (.ife (.bop false (.cons (.cmp .notin (.var 13 "last") (.var 15 "rows")) (.cons (.cmp .eq (.var 9 "gone") (.cst (.int 1))) .nil))) (.cons (.ret (.bi .tuple (.sl (.var 15 "rows") .no (.yes (.var 1 "size"))))) .nil) .nil) (.cons (.setP [(16, "due"), (17, "left")] (.cons (.call 78 (.cons (.var 4 "order") (.cons (.var 13 "last") .nil))) (.cons (.lst .nil) .nil))) (.frz 16 (.cons (.forS (.nm 18 "row") (.seq (.var 15 "rows")) (.cons (.set 19 "place" (.call 78 (.cons (.var 4 "order") (.cons (.var 18 "row") .nil)))) (.frz 19 (.cons (.setT (.tp [(20, "one"), (21, "other")]) (.ife (.cmp .eq (.var 5 "mark") (.cst (.int 1))) (.tup (.cons (.sl (.var 19 "place") .no (.yes (.cst (.int 1)))) (.cons (.sl (.var 16 "due") .no (.yes (.cst (.int 1)))) .nil))) (.tup (.cons (.var 19 "place") (.cons (.var 16 "due") .nil))))) (.cons (.ife (.bop true (.cons (.cmp .gt (.var 20 "one") (.var 21 "other")) (.cons (.bop false (.cons (.cmp .eq (.var 6 "same") (.cst (.int 1))) (.cons (.cmp .eq (.var 20 "one") (.var 21 "other")) .nil))) .nil))) (.cons (.app 17 "left" (.var 18 "row")) .nil) .nil) .nil))))) (.frz 17 (.cons (.ret (.bi .tuple (.sl (.var 17 "left") .no (.yes (.var 1 "size"))))) .nil))))))))))))⟩
/-- _law_paged -/
def b118 : Fd := ⟨4, 15, (.cons (.setT (.tp [(4, "first"), (5, "got"), (6, "sent"), (7, "last"), (8, "over")]) (.var 3 "reading")) (.cons (.ife (.cmp .eq (.var 8 "over") (.cst (.int 1))) (.cons (.ret (.var 3 "reading")) .nil) .nil) (.cons (.set 9 "page" (.call 117 (.cons (.var 0 "table") (.cons (.var 1 "size") (.cons (.var 2 "now") (.cons (.var 3 "reading") .nil)))))) (.frz 9 (.cons (.set 10 "keys" (.ife (.cmp .eq (.ix (.var 0 "table") (.cst (.int 4))) (.cst (.int 1))) (.comp [("key", 11), ("rank", 12)] (.tp [(11, "key"), (12, "rank")]) (.seq (.var 5 "got")) .no (.var 11 "key")) (.lst .nil))) (.frz 10 (.cons (.set 13 "new" (.bi .tuple (.comp [("row", 14)] (.nm 14 "row") (.seq (.var 9 "page")) (.yes (.cmp .notin (.ix (.var 14 "row") (.cst (.int 0))) (.var 10 "keys"))) (.var 14 "row")))) (.cons (.ret (.tup (.cons (.ife (.cmp .is (.var 4 "first") (.cst .none)) (.var 2 "now") (.var 4 "first")) (.cons (.bin .add (.var 5 "got") (.var 13 "new")) (.cons (.bin .add (.var 6 "sent") (.bi .len (.var 9 "page"))) (.cons (.ife (.cmp .ne (.var 9 "page") (.tup .nil)) (.ix (.var 9 "page") (.neg (.cst (.int 1)))) (.var 7 "last")) (.cons (.ife (.cmp .lt (.bi .len (.var 9 "page")) (.var 1 "size")) (.cst (.int 1)) (.cst (.int 0))) .nil))))))) .nil))))))))⟩
/-- view_of -/
def b120 : Fd := ⟨2, 2, (.cons (.expr (.call 95 (.cons (.var 0 "table") .nil))) (.cons (.expr (.call 110 (.cons (.var 1 "reading") .nil))) (.cons (.ret (.call 104 (.cons (.var 0 "table") (.cons (.var 1 "reading") .nil)))) .nil)))⟩
/-- has_gone -/
def b121 : Fd := ⟨2, 2, (.cons (.expr (.call 95 (.cons (.var 0 "table") .nil))) (.cons (.expr (.call 110 (.cons (.var 1 "reading") .nil))) (.cons (.ret (.bop false (.cons (.cmp .isnot (.ix (.var 1 "reading") (.glob "LAST" (.int 4))) (.cst .none)) (.cons (.cmp .notin (.ix (.var 1 "reading") (.glob "LAST" (.int 4))) (.call 104 (.cons (.var 0 "table") (.cons (.var 1 "reading") .nil)))) .nil)))) .nil)))⟩
/-- is_long -/
def b122 : Fd := ⟨1, 1, (.cons (.expr (.call 110 (.cons (.var 0 "reading") .nil))) (.cons (.ret (.bop true (.cons (.cmp .gt (.bi .len (.ix (.var 0 "reading") (.glob "GOT" (.int 2)))) (.bin .sub (.glob "FAR" (.int 400)) (.glob "KEYS" (.int 10)))) (.cons (.cmp .gt (.ix (.var 0 "reading") (.glob "SENT" (.int 3))) (.bin .sub (.glob "FAR" (.int 400)) (.glob "KEYS" (.int 10)))) .nil)))) .nil))⟩
/-- tables_alike -/
def b124 : Fd := ⟨2, 2, (.cons (.expr (.call 95 (.cons (.var 0 "one") .nil))) (.cons (.expr (.call 95 (.cons (.var 1 "other") .nil))) (.cons (.ret (.cmp .eq (.call 125 (.cons (.var 0 "one") .nil)) (.call 125 (.cons (.var 1 "other") .nil)))) .nil)))⟩
/-- plain_in -/
def b125 : Fd := ⟨1, 7, (.cons (.setT (.tp [(1, "order"), (2, "mark"), (3, "same"), (4, "view"), (5, "seen"), (6, "gone")]) (.var 0 "table")) (.cons (.ife (.cmp .eq (.var 2 "mark") (.cst (.int 0))) (.cons (.ret (.tup (.cons (.var 1 "order") (.cons (.cst (.int 0)) (.cons (.cst (.int 0)) (.cons (.var 4 "view") (.cons (.var 5 "seen") (.cons (.cst (.int 0)) .nil)))))))) .nil) .nil) (.cons (.ret (.tup (.cons (.var 1 "order") (.cons (.ife (.cmp .eq (.var 1 "order") (.cst (.int 0))) (.cst (.int 1)) (.var 2 "mark")) (.cons (.var 3 "same") (.cons (.var 4 "view") (.cons (.var 5 "seen") (.cons (.ife (.cmp .eq (.var 4 "view") (.cst (.int 1))) (.cst (.int 0)) (.var 6 "gone")) .nil)))))))) .nil)))⟩
/-- plain_table -/
def b126 : Fd := ⟨1, 1, (.cons (.expr (.call 95 (.cons (.var 0 "table") .nil))) (.cons (.ret (.call 125 (.cons (.var 0 "table") .nil))) .nil))⟩
/-- without_idle -/
def b133 : Fd := ⟨2, 4, (.cons (.expr (.call 5 (.cons (.var 0 "rows") .nil))) (.cons (.ife (.notE (.call 8 (.cons (.var 1 "history") .nil))) (.cons (.raise 1) .nil) .nil) (.cons (.set 2 "found" (.tup .nil)) (.cons (.forS (.nm 3 "step") (.seq (.var 1 "history")) (.cons (.ife (.bop true (.cons (.cmp .eq (.var 3 "step") (.glob "PAGE" (.tuple [(.str "page")]))) (.cons (.cmp .ne (.call 49 (.cons (.var 0 "rows") (.cons (.var 3 "step") .nil))) (.var 0 "rows")) .nil))) (.cons (.set 2 "found" (.bin .add (.var 2 "found") (.tup (.cons (.var 3 "step") .nil)))) .nil) .nil) (.cons (.set 0 "rows" (.ife (.cmp .eq (.var 3 "step") (.glob "PAGE" (.tuple [(.str "page")]))) (.var 0 "rows") (.call 49 (.cons (.var 0 "rows") (.cons (.var 3 "step") .nil))))) .nil))) (.cons (.ret (.var 2 "found")) .nil)))))⟩
/-- pages_many -/
def b134 : Fd := ⟨1, 2, (.cons (.ife (.notE (.call 8 (.cons (.var 0 "history") .nil))) (.cons (.raise 1) .nil) .nil) (.cons (.ret (.bi .len (.comp [("step", 1)] (.nm 1 "step") (.seq (.var 0 "history")) (.yes (.cmp .eq (.var 1 "step") (.glob "PAGE" (.tuple [(.str "page")])))) (.var 1 "step")))) .nil))⟩
/-- list_at -/
def b135 : Fd := ⟨3, 4, (.cons (.expr (.call 5 (.cons (.var 0 "rows") .nil))) (.cons (.ife (.notE (.call 8 (.cons (.var 1 "history") .nil))) (.cons (.raise 1) .nil) .nil) (.cons (.ife (.notE (.call 1 (.cons (.var 2 "number") (.cons (.cst (.int 0)) (.cons (.bi .len (.var 1 "history")) .nil))))) (.cons (.raise 4) .nil) .nil) (.cons (.forS (.nm 3 "step") (.seq (.sl (.var 1 "history") .no (.yes (.var 2 "number")))) (.cons (.set 0 "rows" (.ife (.cmp .eq (.var 3 "step") (.glob "PAGE" (.tuple [(.str "page")]))) (.var 0 "rows") (.call 49 (.cons (.var 0 "rows") (.cons (.var 3 "step") .nil))))) .nil)) (.cons (.ret (.var 0 "rows")) .nil)))))⟩
/-- stepped_in -/
def b137 : Fd := ⟨4, 4, (.cons (.ret (.ife (.cmp .eq (.var 3 "step") (.glob "PAGE" (.tuple [(.str "page")]))) (.call 108 (.cons (.var 0 "table") (.cons (.var 1 "size") (.cons (.var 2 "reading") .nil)))) (.call 109 (.cons (.var 2 "reading") (.cons (.var 3 "step") .nil))))) .nil)⟩
/-- along_in -/
def b138 : Fd := ⟨4, 6, (.cons (.set 4 "found" (.lst (.cons (.call 93 (.cons (.var 2 "rows") .nil)) .nil))) (.cons (.forS (.nm 5 "step") (.seq (.var 3 "history")) (.cons (.app 4 "found" (.call 137 (.cons (.var 0 "table") (.cons (.var 1 "size") (.cons (.ix (.var 4 "found") (.neg (.cst (.int 1)))) (.cons (.var 5 "step") .nil)))))) .nil)) (.cons (.ret (.var 4 "found")) .nil)))⟩
/-- need_step -/
def b139 : Fd := ⟨1, 1, (.cons (.ife (.notE (.call 7 (.cons (.var 0 "value") .nil))) (.cons (.raise 1) .nil) .nil) .nil)⟩
/-- need_run -/
def b140 : Fd := ⟨4, 4, (.cons (.expr (.call 95 (.cons (.var 0 "table") .nil))) (.cons (.expr (.call 85 (.cons (.var 1 "size") .nil))) (.cons (.expr (.call 5 (.cons (.var 2 "rows") .nil))) (.cons (.ife (.notE (.call 8 (.cons (.var 3 "history") .nil))) (.cons (.raise 1) .nil) .nil) .nil))))⟩
/-- behind -/
def b141 : Fd := ⟨4, 4, (.cons (.expr (.call 95 (.cons (.var 0 "table") .nil))) (.cons (.expr (.call 85 (.cons (.var 1 "size") .nil))) (.cons (.expr (.call 110 (.cons (.var 2 "reading") .nil))) (.cons (.expr (.call 139 (.cons (.var 3 "step") .nil))) (.cons (.ret (.call 137 (.cons (.var 0 "table") (.cons (.var 1 "size") (.cons (.var 2 "reading") (.cons (.var 3 "step") .nil)))))) .nil)))))⟩
/-- read_along -/
def b142 : Fd := ⟨4, 4, (.cons (.expr (.call 140 (.cons (.var 0 "table") (.cons (.var 1 "size") (.cons (.var 2 "rows") (.cons (.var 3 "history") .nil)))))) (.cons (.ret (.ix (.call 138 (.cons (.var 0 "table") (.cons (.var 1 "size") (.cons (.var 2 "rows") (.cons (.var 3 "history") .nil))))) (.neg (.cst (.int 1))))) .nil))⟩
/-- readings_along -/
def b143 : Fd := ⟨4, 4, (.cons (.expr (.call 140 (.cons (.var 0 "table") (.cons (.var 1 "size") (.cons (.var 2 "rows") (.cons (.var 3 "history") .nil)))))) (.cons (.ret (.bi .tuple (.call 138 (.cons (.var 0 "table") (.cons (.var 1 "size") (.cons (.var 2 "rows") (.cons (.var 3 "history") .nil))))))) .nil))⟩
/-- pages_along -/
def b144 : Fd := ⟨4, 8, (.cons (.expr (.call 140 (.cons (.var 0 "table") (.cons (.var 1 "size") (.cons (.var 2 "rows") (.cons (.var 3 "history") .nil)))))) (.cons (.setP [(4, "found"), (5, "reading")] (.cons (.lst .nil) (.cons (.call 93 (.cons (.var 2 "rows") .nil)) .nil))) (.frz 5 (.cons (.forS (.nm 6 "step") (.seq (.var 3 "history")) (.cons (.set 7 "later" (.call 137 (.cons (.var 0 "table") (.cons (.var 1 "size") (.cons (.var 5 "reading") (.cons (.var 6 "step") .nil)))))) (.frz 7 (.cons (.ife (.bop false (.cons (.cmp .eq (.var 6 "step") (.glob "PAGE" (.tuple [(.str "page")]))) (.cons (.cmp .eq (.ix (.var 5 "reading") (.glob "OVER" (.int 5))) (.cst (.int 0))) .nil))) (.cons (.app 4 "found" (.sl (.ix (.var 7 "later") (.glob "GOT" (.int 2))) (.yes (.bi .len (.ix (.var 5 "reading") (.glob "GOT" (.int 2))))) .no)) .nil) .nil) (.cons (.set 5 "reading" (.var 7 "later")) .nil))))) (.frz 4 (.cons (.ret (.bi .tuple (.var 4 "found"))) .nil))))))⟩
/-- moments_in -/
def b146 : Fd := ⟨4, 8, (.cons (.setP [(4, "found"), (5, "reading"), (6, "last")] (.cons (.lst .nil) (.cons (.call 93 (.cons (.var 2 "rows") .nil)) (.cons (.cst (.int 0)) .nil)))) (.frz 5 (.cons (.forS (.nm 7 "step") (.seq (.var 3 "history")) (.cons (.ife (.bop false (.cons (.cmp .eq (.var 7 "step") (.glob "PAGE" (.tuple [(.str "page")]))) (.cons (.cmp .eq (.ix (.var 5 "reading") (.glob "OVER" (.int 5))) (.cst (.int 0))) .nil))) (.cons (.set 4 "found" (.ife (.cmp .ne (.var 4 "found") (.lst .nil)) (.var 4 "found") (.lst (.cons (.ix (.var 5 "reading") (.glob "NOW" (.int 0))) .nil)))) (.frz 4 (.cons (.set 6 "last" (.bi .len (.var 4 "found"))) .nil))) (.cons (.ife (.bop false (.cons (.cmp .ne (.var 7 "step") (.glob "PAGE" (.tuple [(.str "page")]))) (.cons (.cmp .ne (.var 4 "found") (.lst .nil)) .nil))) (.cons (.app 4 "found" (.call 49 (.cons (.ix (.var 5 "reading") (.glob "NOW" (.int 0))) (.cons (.var 7 "step") .nil)))) .nil) .nil) .nil)) (.cons (.set 5 "reading" (.call 137 (.cons (.var 0 "table") (.cons (.var 1 "size") (.cons (.var 5 "reading") (.cons (.var 7 "step") .nil)))))) .nil))) (.frz 4 (.cons (.ret (.sl (.var 4 "found") .no (.yes (.var 6 "last")))) .nil)))))⟩
/-- moments -/
def b147 : Fd := ⟨4, 4, (.cons (.expr (.call 140 (.cons (.var 0 "table") (.cons (.var 1 "size") (.cons (.var 2 "rows") (.cons (.var 3 "history") .nil)))))) (.cons (.ret (.bi .tuple (.call 146 (.cons (.var 0 "table") (.cons (.var 1 "size") (.cons (.var 2 "rows") (.cons (.var 3 "history") .nil))))))) .nil))⟩
/-- _law_read -/
def b148 : Fd := ⟨4, 9, (.cons (.setP [(4, "reading"), (5, "now"), (6, "met"), (7, "last")] (.cons (.call 116 .nil) (.cons (.var 2 "rows") (.cons (.lst .nil) (.cons (.cst (.int 0)) .nil))))) (.frz 4 (.frz 6 (.cons (.forS (.nm 8 "step") (.seq (.var 3 "history")) (.cons (.ife (.cmp .eq (.var 8 "step") (.tup (.cons (.cst (.str "page")) .nil))) (.cons (.ife (.cmp .eq (.ix (.var 4 "reading") (.cst (.int 4))) (.cst (.int 0))) (.cons (.set 6 "met" (.ife (.cmp .ne (.var 6 "met") (.lst .nil)) (.var 6 "met") (.lst (.cons (.var 5 "now") .nil)))) (.frz 6 (.cons (.set 7 "last" (.bi .len (.var 6 "met"))) .nil))) .nil) (.cons (.set 4 "reading" (.call 118 (.cons (.var 0 "table") (.cons (.var 1 "size") (.cons (.var 5 "now") (.cons (.var 4 "reading") .nil)))))) .nil)) (.cons (.set 5 "now" (.call 57 (.cons (.var 5 "now") (.cons (.var 8 "step") .nil)))) (.frz 5 (.cons (.set 6 "met" (.bin .add (.var 6 "met") (.ife (.cmp .ne (.var 6 "met") (.lst .nil)) (.lst (.cons (.var 5 "now") .nil)) (.lst .nil)))) .nil)))) .nil)) (.cons (.ret (.tup (.cons (.var 4 "reading") (.cons (.var 5 "now") (.cons (.sl (.var 6 "met") .no (.yes (.var 7 "last"))) .nil))))) .nil)))))⟩
/-- ends_in -/
def b150 : Fd := ⟨3, 5, (.cons (.forS (.nm 3 "many") (.rng (.glob "ENDS" (.int 30))) (.cons (.ife (.cmp .eq (.ix (.var 2 "reading") (.glob "OVER" (.int 5))) (.cst (.int 1))) (.cons (.ret (.var 3 "many")) .nil) .nil) (.cons (.set 4 "later" (.call 108 (.cons (.var 0 "table") (.cons (.var 1 "size") (.cons (.var 2 "reading") .nil))))) (.frz 4 (.cons (.ife (.bop false (.cons (.cmp .gt (.ix (.var 0 "table") (.glob "MARK" (.int 1))) (.cst (.int 0))) (.cons (.cmp .eq (.ix (.var 4 "later") (.glob "OVER" (.int 5))) (.cst (.int 0))) (.cons (.cmp .eq (.ix (.var 4 "later") (.glob "LAST" (.int 4))) (.ix (.var 2 "reading") (.glob "LAST" (.int 4)))) .nil)))) (.cons (.ret (.cst .none)) .nil) .nil) (.cons (.set 2 "reading" (.var 4 "later")) .nil)))))) (.cons (.ret (.cst .none)) .nil))⟩
/-- pages_to_end -/
def b151 : Fd := ⟨3, 3, (.cons (.expr (.call 95 (.cons (.var 0 "table") .nil))) (.cons (.expr (.call 85 (.cons (.var 1 "size") .nil))) (.cons (.expr (.call 110 (.cons (.var 2 "reading") .nil))) (.cons (.ret (.call 150 (.cons (.var 0 "table") (.cons (.var 1 "size") (.cons (.var 2 "reading") .nil))))) .nil))))⟩
/-- whole_history -/
def b152 : Fd := ⟨4, 5, (.cons (.expr (.call 140 (.cons (.var 0 "table") (.cons (.var 1 "size") (.cons (.var 2 "rows") (.cons (.var 3 "history") .nil)))))) (.cons (.set 4 "many" (.call 150 (.cons (.var 0 "table") (.cons (.var 1 "size") (.cons (.ix (.call 138 (.cons (.var 0 "table") (.cons (.var 1 "size") (.cons (.var 2 "rows") (.cons (.var 3 "history") .nil))))) (.neg (.cst (.int 1)))) .nil))))) (.frz 4 (.cons (.ret (.ife (.cmp .isnot (.var 4 "many") (.cst .none)) (.bin .add (.var 3 "history") (.bin .mul (.tup (.cons (.glob "PAGE" (.tuple [(.str "page")])) .nil)) (.var 4 "many"))) (.cst .none))) .nil))))⟩
/-- missed_in -/
def b157 : Fd := ⟨4, 6, (.cons (.set 4 "reading" (.ix (.call 138 (.cons (.var 0 "table") (.cons (.var 1 "size") (.cons (.var 2 "rows") (.cons (.var 3 "history") .nil))))) (.neg (.cst (.int 1))))) (.cons (.ife (.cmp .eq (.ix (.var 4 "reading") (.glob "OVER" (.int 5))) (.cst (.int 0))) (.cons (.ret (.lst .nil)) .nil) .nil) (.cons (.ret (.comp [("own", 5)] (.nm 5 "own") (.seq (.call 60 (.cons (.call 146 (.cons (.var 0 "table") (.cons (.var 1 "size") (.cons (.var 2 "rows") (.cons (.var 3 "history") .nil))))) .nil))) (.yes (.cmp .notin (.var 5 "own") (.ix (.var 4 "reading") (.glob "GOT" (.int 2))))) (.var 5 "own"))) .nil)))⟩
/-- lost_keys_in -/
def b158 : Fd := ⟨4, 6, (.cons (.set 4 "reading" (.ix (.call 138 (.cons (.var 0 "table") (.cons (.var 1 "size") (.cons (.var 2 "rows") (.cons (.var 3 "history") .nil))))) (.neg (.cst (.int 1))))) (.cons (.ife (.cmp .eq (.ix (.var 4 "reading") (.glob "OVER" (.int 5))) (.cst (.int 0))) (.cons (.ret (.lst .nil)) .nil) .nil) (.cons (.ret (.comp [("key", 5)] (.nm 5 "key") (.seq (.call 61 (.cons (.call 146 (.cons (.var 0 "table") (.cons (.var 1 "size") (.cons (.var 2 "rows") (.cons (.var 3 "history") .nil))))) .nil))) (.yes (.cmp .notin (.var 5 "key") (.call 50 (.cons (.ix (.var 4 "reading") (.glob "GOT" (.int 2))) .nil)))) (.var 5 "key"))) .nil)))⟩
/-- twice_in -/
def b159 : Fd := ⟨1, 4, (.cons (.set 1 "found" (.lst .nil)) (.cons (.forS (.tp [(2, "at"), (3, "row")]) (.enum (.var 0 "got")) (.cons (.ife (.bop false (.cons (.cmp .in_ (.ix (.var 3 "row") (.glob "KEY" (.int 0))) (.call 50 (.cons (.sl (.var 0 "got") .no (.yes (.var 2 "at"))) .nil))) (.cons (.cmp .notin (.ix (.var 3 "row") (.glob "KEY" (.int 0))) (.var 1 "found")) .nil))) (.cons (.app 1 "found" (.ix (.var 3 "row") (.glob "KEY" (.int 0)))) .nil) .nil) .nil)) (.cons (.ret (.var 1 "found")) .nil)))⟩
/-- falls_in -/
def b160 : Fd := ⟨2, 5, (.cons (.set 2 "places" (.comp [("row", 3)] (.nm 3 "row") (.seq (.var 1 "got")) .no (.call 70 (.cons (.var 0 "order") (.cons (.var 3 "row") .nil))))) (.frz 2 (.cons (.ret (.comp [("at", 4)] (.nm 4 "at") (.rng2 (.cst (.int 1)) (.bi .len (.var 1 "got"))) (.yes (.cmp .lt (.ix (.var 2 "places") (.var 4 "at")) (.bi .max (.sl (.var 2 "places") .no (.yes (.var 4 "at")))))) (.var 4 "at"))) .nil)))⟩
/-- stale_in -/
def b161 : Fd := ⟨4, 11, (.cons (.setP [(4, "found"), (5, "reading")] (.cons (.lst .nil) (.cons (.call 93 (.cons (.var 2 "rows") .nil)) .nil))) (.frz 5 (.cons (.forS (.nm 6 "step") (.seq (.var 3 "history")) (.cons (.set 7 "later" (.call 137 (.cons (.var 0 "table") (.cons (.var 1 "size") (.cons (.var 5 "reading") (.cons (.var 6 "step") .nil)))))) (.frz 7 (.cons (.ife (.cmp .eq (.var 6 "step") (.glob "PAGE" (.tuple [(.str "page")]))) (.cons (.set 8 "begin" (.bi .len (.ix (.var 5 "reading") (.glob "GOT" (.int 2))))) (.cons (.aug 4 "found" false (.comp [("at", 9), ("row", 10)] (.tp [(9, "at"), (10, "row")]) (.enum (.sl (.ix (.var 7 "later") (.glob "GOT" (.int 2))) (.yes (.var 8 "begin")) .no)) (.yes (.cmp .notin (.var 10 "row") (.ix (.var 5 "reading") (.glob "NOW" (.int 0))))) (.bin .add (.var 8 "begin") (.var 9 "at")))) .nil)) .nil) (.cons (.set 5 "reading" (.var 7 "later")) .nil))))) (.cons (.ret (.var 4 "found")) .nil))))⟩
/-- holds_in -/
def b163 : Fd := ⟨5, 6, (.cons (.set 5 "got" (.ix (.ix (.call 138 (.cons (.var 0 "table") (.cons (.var 1 "size") (.cons (.var 2 "rows") (.cons (.var 3 "history") .nil))))) (.neg (.cst (.int 1)))) (.glob "GOT" (.int 2)))) (.cons (.ife (.cmp .eq (.var 4 "word") (.cst (.str "ends"))) (.cons (.ret (.cmp .isnot (.call 150 (.cons (.var 0 "table") (.cons (.var 1 "size") (.cons (.ix (.call 138 (.cons (.var 0 "table") (.cons (.var 1 "size") (.cons (.var 2 "rows") (.cons (.var 3 "history") .nil))))) (.neg (.cst (.int 1)))) .nil)))) (.cst .none))) .nil) .nil) (.cons (.ife (.cmp .eq (.var 4 "word") (.cst (.str "all"))) (.cons (.ret (.cmp .eq (.call 157 (.cons (.var 0 "table") (.cons (.var 1 "size") (.cons (.var 2 "rows") (.cons (.var 3 "history") .nil))))) (.lst .nil))) .nil) .nil) (.cons (.ife (.cmp .eq (.var 4 "word") (.cst (.str "kept"))) (.cons (.ret (.cmp .eq (.call 158 (.cons (.var 0 "table") (.cons (.var 1 "size") (.cons (.var 2 "rows") (.cons (.var 3 "history") .nil))))) (.lst .nil))) .nil) .nil) (.cons (.ife (.cmp .eq (.var 4 "word") (.cst (.str "once"))) (.cons (.ret (.cmp .eq (.call 159 (.cons (.var 5 "got") .nil)) (.lst .nil))) .nil) .nil) (.cons (.ife (.cmp .eq (.var 4 "word") (.cst (.str "rising"))) (.cons (.ret (.cmp .eq (.call 160 (.cons (.ix (.var 0 "table") (.glob "ORDER" (.int 0))) (.cons (.var 5 "got") .nil))) (.lst .nil))) .nil) .nil) (.cons (.ife (.cmp .eq (.var 4 "word") (.cst (.str "true"))) (.cons (.ret (.cmp .eq (.call 161 (.cons (.var 0 "table") (.cons (.var 1 "size") (.cons (.var 2 "rows") (.cons (.var 3 "history") .nil))))) (.lst .nil))) .nil) .nil) (.cons (.ret (.cmp .isnot (.call 162 (.cons (.var 0 "table") (.cons (.var 1 "size") (.cons (.var 2 "rows") (.cons (.var 3 "history") .nil))))) (.cst .none))) .nil))))))))⟩
/-- need_word -/
def b164 : Fd := ⟨1, 1, (.cons (.ife (.bop true (.cons (.notE (.bi (.isi .str) (.var 0 "value"))) (.cons (.cmp .notin (.var 0 "value") (.glob "WORDS" (.tuple [(.str "ends"), (.str "all"), (.str "kept"), (.str "once"), (.str "rising"), (.str "true"), (.str "one")]))) .nil))) (.cons (.raise 3) .nil) .nil) .nil)⟩
/-- holds -/
def b165 : Fd := ⟨5, 5, (.cons (.expr (.call 140 (.cons (.var 0 "table") (.cons (.var 1 "size") (.cons (.var 2 "rows") (.cons (.var 3 "history") .nil)))))) (.cons (.expr (.call 164 (.cons (.var 4 "word") .nil))) (.cons (.ret (.call 163 (.cons (.var 0 "table") (.cons (.var 1 "size") (.cons (.var 2 "rows") (.cons (.var 3 "history") (.cons (.var 4 "word") .nil))))))) .nil)))⟩
/-- words_holding -/
def b166 : Fd := ⟨4, 5, (.cons (.expr (.call 140 (.cons (.var 0 "table") (.cons (.var 1 "size") (.cons (.var 2 "rows") (.cons (.var 3 "history") .nil)))))) (.cons (.ret (.bi .tuple (.comp [("word", 4)] (.nm 4 "word") (.seq (.glob "WORDS" (.tuple [(.str "ends"), (.str "all"), (.str "kept"), (.str "once"), (.str "rising"), (.str "true"), (.str "one")]))) (.yes (.call 163 (.cons (.var 0 "table") (.cons (.var 1 "size") (.cons (.var 2 "rows") (.cons (.var 3 "history") (.cons (.var 4 "word") .nil))))))) (.var 4 "word")))) .nil))⟩
/-- missed_rows -/
def b171 : Fd := ⟨4, 4, (.cons (.expr (.call 140 (.cons (.var 0 "table") (.cons (.var 1 "size") (.cons (.var 2 "rows") (.cons (.var 3 "history") .nil)))))) (.cons (.ret (.bi .tuple (.call 157 (.cons (.var 0 "table") (.cons (.var 1 "size") (.cons (.var 2 "rows") (.cons (.var 3 "history") .nil))))))) .nil))⟩
/-- missed_keys -/
def b172 : Fd := ⟨4, 4, (.cons (.expr (.call 140 (.cons (.var 0 "table") (.cons (.var 1 "size") (.cons (.var 2 "rows") (.cons (.var 3 "history") .nil)))))) (.cons (.ret (.bi .tuple (.call 158 (.cons (.var 0 "table") (.cons (.var 1 "size") (.cons (.var 2 "rows") (.cons (.var 3 "history") .nil))))))) .nil))⟩
/-- keys_twice -/
def b173 : Fd := ⟨4, 4, (.cons (.expr (.call 140 (.cons (.var 0 "table") (.cons (.var 1 "size") (.cons (.var 2 "rows") (.cons (.var 3 "history") .nil)))))) (.cons (.ret (.bi .tuple (.call 159 (.cons (.ix (.ix (.call 138 (.cons (.var 0 "table") (.cons (.var 1 "size") (.cons (.var 2 "rows") (.cons (.var 3 "history") .nil))))) (.neg (.cst (.int 1)))) (.glob "GOT" (.int 2))) .nil)))) .nil))⟩
/-- rows_falling -/
def b174 : Fd := ⟨4, 4, (.cons (.expr (.call 140 (.cons (.var 0 "table") (.cons (.var 1 "size") (.cons (.var 2 "rows") (.cons (.var 3 "history") .nil)))))) (.cons (.ret (.bi .tuple (.call 160 (.cons (.ix (.var 0 "table") (.glob "ORDER" (.int 0))) (.cons (.ix (.ix (.call 138 (.cons (.var 0 "table") (.cons (.var 1 "size") (.cons (.var 2 "rows") (.cons (.var 3 "history") .nil))))) (.neg (.cst (.int 1)))) (.glob "GOT" (.int 2))) .nil))))) .nil))⟩
/-- rows_stale -/
def b175 : Fd := ⟨4, 4, (.cons (.expr (.call 140 (.cons (.var 0 "table") (.cons (.var 1 "size") (.cons (.var 2 "rows") (.cons (.var 3 "history") .nil)))))) (.cons (.ret (.bi .tuple (.call 161 (.cons (.var 0 "table") (.cons (.var 1 "size") (.cons (.var 2 "rows") (.cons (.var 3 "history") .nil))))))) .nil))⟩
/-- moment_got -/
def b176 : Fd := ⟨4, 4, (.cons (.expr (.call 140 (.cons (.var 0 "table") (.cons (.var 1 "size") (.cons (.var 2 "rows") (.cons (.var 3 "history") .nil)))))) (.cons (.ret (.call 162 (.cons (.var 0 "table") (.cons (.var 1 "size") (.cons (.var 2 "rows") (.cons (.var 3 "history") .nil)))))) .nil))⟩
/-- first_breach -/
def b179 : Fd := ⟨5, 6, (.cons (.expr (.call 140 (.cons (.var 0 "table") (.cons (.var 1 "size") (.cons (.var 2 "rows") (.cons (.var 3 "history") .nil)))))) (.cons (.expr (.call 164 (.cons (.var 4 "word") .nil))) (.cons (.forS (.nm 5 "many") (.rng (.bin .add (.bi .len (.var 3 "history")) (.cst (.int 1)))) (.cons (.ife (.notE (.call 163 (.cons (.var 0 "table") (.cons (.var 1 "size") (.cons (.var 2 "rows") (.cons (.sl (.var 3 "history") .no (.yes (.var 5 "many"))) (.cons (.var 4 "word") .nil))))))) (.cons (.ret (.var 5 "many")) .nil) .nil) .nil)) (.cons (.ret (.cst .none)) .nil))))⟩
/-- is_whole -/
def b185 : Fd := ⟨1, 1, (.cons (.ret (.bop true (.cons (.cmp .eq (.ix (.var 0 "table") (.glob "MARK" (.int 1))) (.cst (.int 0))) (.cons (.cmp .eq (.ix (.var 0 "table") (.glob "SAME" (.int 2))) (.cst (.int 1))) (.cons (.cmp .eq (.ix (.var 0 "table") (.glob "ORDER" (.int 0))) (.cst (.int 0))) (.cons (.cmp .eq (.ix (.var 0 "table") (.glob "MARK" (.int 1))) (.cst (.int 2))) .nil)))))) .nil)⟩
/-- is_still -/
def b186 : Fd := ⟨2, 2, (.cons (.ife (.bop true (.cons (.cmp .eq (.ix (.var 0 "table") (.glob "MARK" (.int 1))) (.cst (.int 0))) (.cons (.cmp .eq (.ix (.var 0 "table") (.glob "SAME" (.int 2))) (.cst (.int 0))) .nil))) (.cons (.ret (.cst (.bool false))) .nil) .nil) (.cons (.ret (.bop true (.cons (.cmp .eq (.var 1 "size") (.cst (.int 1))) (.cons (.bop false (.cons (.cmp .eq (.ix (.var 0 "table") (.glob "ORDER" (.int 0))) (.cst (.int 1))) (.cons (.cmp .eq (.ix (.var 0 "table") (.glob "MARK" (.int 1))) (.cst (.int 1))) .nil))) .nil)))) .nil))⟩
/-- never_over -/
def b187 : Fd := ⟨2, 2, (.cons (.ret (.bop false (.cons (.cmp .gt (.ix (.var 0 "table") (.glob "MARK" (.int 1))) (.cst (.int 0))) (.cons (.cmp .eq (.ix (.var 0 "table") (.glob "SAME" (.int 2))) (.cst (.int 1))) (.cons (.cmp .eq (.var 1 "size") (.cst (.int 1))) .nil))))) .nil)⟩
/-- told_in -/
def b188 : Fd := ⟨3, 9, (.cons (.setT (.tp [(3, "order"), (4, "mark"), (5, "same"), (6, "view"), (7, "seen"), (8, "gone")]) (.var 0 "table")) (.cons (.ife (.cmp .eq (.var 2 "word") (.cst (.str "ends"))) (.cons (.ret (.notE (.call 186 (.cons (.var 0 "table") (.cons (.var 1 "size") .nil))))) .nil) .nil) (.cons (.ife (.cmp .eq (.var 2 "word") (.cst (.str "one"))) (.cons (.ret (.bop false (.cons (.cmp .eq (.var 6 "view") (.cst (.int 1))) (.cons (.call 185 (.cons (.var 0 "table") .nil)) .nil)))) .nil) .nil) (.cons (.ife (.cmp .eq (.var 2 "word") (.cst (.str "true"))) (.cons (.ret (.bop true (.cons (.cmp .eq (.var 6 "view") (.cst (.int 0))) (.cons (.bop false (.cons (.call 187 (.cons (.var 0 "table") (.cons (.var 1 "size") .nil))) (.cons (.cmp .eq (.var 7 "seen") (.cst (.int 1))) .nil))) .nil)))) .nil) .nil) (.cons (.ife (.cmp .eq (.var 2 "word") (.cst (.str "once"))) (.cons (.ife (.cmp .eq (.var 7 "seen") (.cst (.int 1))) (.cons (.ret (.cst (.bool true))) .nil) .nil) (.cons (.ife (.cmp .eq (.var 6 "view") (.cst (.int 1))) (.cons (.ret (.bop true (.cons (.cmp .eq (.var 4 "mark") (.cst (.int 0))) (.cons (.cmp .eq (.var 5 "same") (.cst (.int 0))) .nil)))) .nil) .nil) (.cons (.ret (.bop false (.cons (.cmp .gt (.var 4 "mark") (.cst (.int 0))) (.cons (.cmp .eq (.var 5 "same") (.cst (.int 0))) (.cons (.cmp .eq (.var 3 "order") (.cst (.int 0))) (.cons (.cmp .ne (.var 8 "gone") (.cst (.int 1))) .nil)))))) .nil))) .nil) (.cons (.ife (.cmp .eq (.var 2 "word") (.cst (.str "rising"))) (.cons (.ife (.cmp .eq (.var 6 "view") (.cst (.int 1))) (.cons (.ret (.notE (.bop false (.cons (.cmp .eq (.var 4 "mark") (.cst (.int 1))) (.cons (.cmp .eq (.var 3 "order") (.cst (.int 1))) (.cons (.cmp .eq (.var 5 "same") (.cst (.int 1))) (.cons (.cmp .eq (.var 7 "seen") (.cst (.int 0))) (.cons (.cmp .gt (.var 1 "size") (.cst (.int 1))) .nil)))))))) .nil) .nil) (.cons (.ret (.bop false (.cons (.cmp .gt (.var 4 "mark") (.cst (.int 0))) (.cons (.cmp .ne (.var 8 "gone") (.cst (.int 1))) (.cons (.bop true (.cons (.cmp .eq (.var 5 "same") (.cst (.int 0))) (.cons (.cmp .eq (.var 3 "order") (.cst (.int 0))) (.cons (.cmp .eq (.var 4 "mark") (.cst (.int 2))) .nil)))) .nil))))) .nil)) .nil) (.cons (.ife (.cmp .eq (.var 6 "view") (.cst (.int 1))) (.cons (.ret (.call 185 (.cons (.var 0 "table") .nil))) .nil) .nil) (.cons (.ife (.bop true (.cons (.cmp .eq (.var 2 "word") (.cst (.str "all"))) (.cons (.cmp .eq (.var 3 "order") (.cst (.int 0))) .nil))) (.cons (.ret (.bop false (.cons (.cmp .gt (.var 4 "mark") (.cst (.int 0))) (.cons (.cmp .ne (.var 8 "gone") (.cst (.int 2))) (.cons (.call 185 (.cons (.var 0 "table") .nil)) .nil))))) .nil) .nil) (.cons (.ret (.bop false (.cons (.cmp .eq (.var 8 "gone") (.cst (.int 1))) (.cons (.call 187 (.cons (.var 0 "table") (.cons (.var 1 "size") .nil))) .nil)))) .nil)))))))))⟩
/-- need_both -/
def b189 : Fd := ⟨2, 2, (.cons (.expr (.call 95 (.cons (.var 0 "table") .nil))) (.cons (.expr (.call 85 (.cons (.var 1 "size") .nil))) .nil))⟩
/-- holds_always -/
def b190 : Fd := ⟨3, 3, (.cons (.expr (.call 189 (.cons (.var 0 "table") (.cons (.var 1 "size") .nil)))) (.cons (.expr (.call 164 (.cons (.var 2 "word") .nil))) (.cons (.ret (.call 188 (.cons (.var 0 "table") (.cons (.var 1 "size") (.cons (.var 2 "word") .nil))))) .nil)))⟩
/-- words_always -/
def b191 : Fd := ⟨2, 3, (.cons (.expr (.call 189 (.cons (.var 0 "table") (.cons (.var 1 "size") .nil)))) (.cons (.ret (.bi .tuple (.comp [("word", 2)] (.nm 2 "word") (.seq (.glob "WORDS" (.tuple [(.str "ends"), (.str "all"), (.str "kept"), (.str "once"), (.str "rising"), (.str "true"), (.str "one")]))) (.yes (.call 188 (.cons (.var 0 "table") (.cons (.var 1 "size") (.cons (.var 2 "word") .nil))))) (.var 2 "word")))) .nil))⟩
/-- sizes_telling -/
def b192 : Fd := ⟨2, 3, (.cons (.expr (.call 95 (.cons (.var 0 "table") .nil))) (.cons (.expr (.call 164 (.cons (.var 1 "word") .nil))) (.cons (.ret (.bi .tuple (.comp [("size", 2)] (.nm 2 "size") (.rng2 (.cst (.int 1)) (.bin .add (.glob "SIZE" (.int 3)) (.cst (.int 1)))) (.yes (.call 188 (.cons (.var 0 "table") (.cons (.var 2 "size") (.cons (.var 1 "word") .nil))))) (.var 2 "size")))) .nil)))⟩
/-- _law_always -/
def b193 : Fd := ⟨3, 13, (.cons (.setT (.tp [(3, "order"), (4, "mark"), (5, "same"), (6, "view"), (7, "seen"), (8, "gone")]) (.var 0 "table")) (.cons (.set 9 "ties" (.bop false (.cons (.cmp .eq (.var 3 "order") (.cst (.int 1))) (.cons (.cmp .eq (.var 4 "mark") (.cst (.int 1))) .nil)))) (.cons (.setP [(10, "whole"), (11, "stays")] (.cons (.notE (.bop false (.cons (.var 9 "ties") (.cons (.cmp .eq (.var 5 "same") (.cst (.int 0))) .nil)))) (.cons (.bop false (.cons (.cmp .gt (.var 4 "mark") (.cst (.int 0))) (.cons (.cmp .eq (.var 5 "same") (.cst (.int 1))) (.cons (.cmp .eq (.var 1 "size") (.cst (.int 1))) .nil)))) .nil))) (.cons (.ife (.cmp .eq (.var 2 "word") (.cst (.str "ends"))) (.cons (.ret (.notE (.bop false (.cons (.cmp .gt (.var 4 "mark") (.cst (.int 0))) (.cons (.cmp .eq (.var 5 "same") (.cst (.int 1))) (.cons (.bop true (.cons (.cmp .eq (.var 1 "size") (.cst (.int 1))) (.cons (.var 9 "ties") .nil))) .nil)))))) .nil) .nil) (.cons (.ife (.cmp .eq (.var 2 "word") (.cst (.str "true"))) (.cons (.ret (.bop true (.cons (.cmp .eq (.var 6 "view") (.cst (.int 0))) (.cons (.bop false (.cons (.cmp .eq (.var 7 "seen") (.cst (.int 1))) (.cons (.var 11 "stays") .nil))) .nil)))) .nil) .nil) (.cons (.ife (.cmp .eq (.var 2 "word") (.cst (.str "one"))) (.cons (.ret (.bop false (.cons (.cmp .eq (.var 6 "view") (.cst (.int 1))) (.cons (.var 10 "whole") .nil)))) .nil) .nil) (.cons (.ife (.cmp .eq (.var 2 "word") (.cst (.str "once"))) (.cons (.ret (.bop true (.cons (.cmp .eq (.var 7 "seen") (.cst (.int 1))) (.cons (.ife (.cmp .eq (.var 6 "view") (.cst (.int 1))) (.bop true (.cons (.cmp .eq (.var 5 "same") (.cst (.int 0))) (.cons (.cmp .eq (.var 4 "mark") (.cst (.int 0))) .nil))) (.bop false (.cons (.cmp .gt (.var 4 "mark") (.cst (.int 0))) (.cons (.cmp .eq (.tup (.cons (.var 3 "order") (.cons (.var 5 "same") .nil))) (.tup (.cons (.cst (.int 0)) (.cons (.cst (.int 0)) .nil)))) (.cons (.cmp .ne (.var 8 "gone") (.cst (.int 1))) .nil))))) .nil)))) .nil) .nil) (.cons (.ife (.cmp .eq (.var 2 "word") (.cst (.str "rising"))) (.cons (.ret (.ife (.cmp .eq (.var 6 "view") (.cst (.int 1))) (.notE (.bop false (.cons (.var 9 "ties") (.cons (.cmp .eq (.var 5 "same") (.cst (.int 1))) (.cons (.cmp .eq (.var 7 "seen") (.cst (.int 0))) (.cons (.cmp .gt (.var 1 "size") (.cst (.int 1))) .nil)))))) (.bop false (.cons (.cmp .gt (.var 4 "mark") (.cst (.int 0))) (.cons (.cmp .ne (.var 8 "gone") (.cst (.int 1))) (.cons (.notE (.bop false (.cons (.var 9 "ties") (.cons (.cmp .eq (.var 5 "same") (.cst (.int 1))) .nil)))) .nil)))))) .nil) .nil) (.cons (.set 12 "steady" (.ife (.cmp .eq (.var 6 "view") (.cst (.int 1))) (.var 10 "whole") (.bop false (.cons (.var 10 "whole") (.cons (.cmp .gt (.var 4 "mark") (.cst (.int 0))) (.cons (.cmp .lt (.var 8 "gone") (.cst (.int 2))) .nil)))))) (.cons (.ret (.ife (.bop true (.cons (.cmp .eq (.var 2 "word") (.cst (.str "all"))) (.cons (.cmp .eq (.var 6 "view") (.cst (.int 1))) (.cons (.cmp .eq (.var 3 "order") (.cst (.int 0))) .nil)))) (.var 12 "steady") (.bop false (.cons (.var 12 "steady") (.cons (.cmp .eq (.var 8 "gone") (.cst (.int 1))) (.cons (.var 11 "stays") .nil)))))) .nil))))))))))⟩
/-- tables_with -/
def b197 : Fd := ⟨2, 4, (.cons (.expr (.call 85 (.cons (.var 0 "size") .nil))) (.cons (.forS (.nm 2 "word") (.seq (.ife (.bi (.isi .tuple) (.var 1 "words")) (.var 1 "words") (.tup (.cons (.cst .none) .nil)))) (.cons (.expr (.call 164 (.cons (.var 2 "word") .nil))) .nil)) (.cons (.ret (.bi .tuple (.comp [("table", 3)] (.nm 3 "table") (.seq (.call 101 .nil)) (.yes (.bi .all (.comp [("word", 2)] (.nm 2 "word") (.seq (.var 1 "words")) .no (.call 188 (.cons (.var 3 "table") (.cons (.var 0 "size") (.cons (.var 2 "word") .nil))))))) (.var 3 "table")))) .nil)))⟩
/-- counts_of_words -/
def b198 : Fd := ⟨1, 3, (.cons (.expr (.call 85 (.cons (.var 0 "size") .nil))) (.cons (.ret (.bi .tuple (.comp [("word", 2)] (.nm 2 "word") (.seq (.glob "WORDS" (.tuple [(.str "ends"), (.str "all"), (.str "kept"), (.str "once"), (.str "rising"), (.str "true"), (.str "one")]))) .no (.bi .len (.comp [("table", 1)] (.nm 1 "table") (.seq (.call 101 .nil)) (.yes (.call 188 (.cons (.var 1 "table") (.cons (.var 0 "size") (.cons (.var 2 "word") .nil))))) (.cst (.int 1))))))) .nil))⟩
/-- mended -/
def b200 : Fd := ⟨3, 10, (.cons (.expr (.call 189 (.cons (.var 0 "table") (.cons (.var 1 "size") .nil)))) (.cons (.forS (.nm 3 "word") (.seq (.ife (.bi (.isi .tuple) (.var 2 "words")) (.var 2 "words") (.tup (.cons (.cst .none) .nil)))) (.cons (.expr (.call 164 (.cons (.var 3 "word") .nil))) .nil)) (.cons (.set 4 "good" (.comp [("own", 5)] (.nm 5 "own") (.seq (.call 101 .nil)) (.yes (.bi .all (.comp [("word", 3)] (.nm 3 "word") (.seq (.var 2 "words")) .no (.call 188 (.cons (.var 5 "own") (.cons (.var 1 "size") (.cons (.var 3 "word") .nil))))))) (.var 5 "own"))) (.frz 4 (.cons (.set 6 "far" (.comp [("own", 5)] (.nm 5 "own") (.seq (.var 4 "good")) .no (.bi .len (.comp [("one", 7), ("other", 8)] (.tp [(7, "one"), (8, "other")]) (.zip (.var 5 "own") (.var 0 "table")) (.yes (.cmp .ne (.var 7 "one") (.var 8 "other"))) (.cst (.int 1)))))) (.frz 6 (.cons (.ret (.ife (.cmp .ne (.var 4 "good") (.lst .nil)) (.bi .tuple (.comp [("own", 5), ("many", 9)] (.tp [(5, "own"), (9, "many")]) (.zip (.var 4 "good") (.var 6 "far")) (.yes (.cmp .eq (.var 9 "many") (.bi .min (.var 6 "far")))) (.var 5 "own"))) (.tup .nil))) .nil)))))))⟩
/-- less_in -/
def b202 : Fd := ⟨2, 3, (.cons (.ret (.bop false (.cons (.bi .all (.comp [("word", 2)] (.nm 2 "word") (.seq (.var 0 "words")) .no (.cmp .in_ (.var 2 "word") (.var 1 "other")))) (.cons (.cmp .gt (.bi .len (.var 1 "other")) (.bi .len (.var 0 "words"))) .nil)))) .nil)⟩
/-- is_better -/
def b203 : Fd := ⟨3, 6, (.cons (.expr (.call 95 (.cons (.var 0 "one") .nil))) (.cons (.expr (.call 95 (.cons (.var 1 "other") .nil))) (.cons (.expr (.call 85 (.cons (.var 2 "size") .nil))) (.cons (.set 3 "first" (.comp [("word", 4)] (.nm 4 "word") (.seq (.glob "WORDS" (.tuple [(.str "ends"), (.str "all"), (.str "kept"), (.str "once"), (.str "rising"), (.str "true"), (.str "one")]))) (.yes (.call 188 (.cons (.var 0 "one") (.cons (.var 2 "size") (.cons (.var 4 "word") .nil))))) (.var 4 "word"))) (.frz 3 (.cons (.set 5 "second" (.comp [("word", 4)] (.nm 4 "word") (.seq (.glob "WORDS" (.tuple [(.str "ends"), (.str "all"), (.str "kept"), (.str "once"), (.str "rising"), (.str "true"), (.str "one")]))) (.yes (.call 188 (.cons (.var 1 "other") (.cons (.var 2 "size") (.cons (.var 4 "word") .nil))))) (.var 4 "word"))) (.frz 5 (.cons (.ret (.call 202 (.cons (.var 3 "first") (.cons (.var 5 "second") .nil)))) .nil))))))))⟩
/-- best_tables -/
def b204 : Fd := ⟨1, 7, (.cons (.expr (.call 85 (.cons (.var 0 "size") .nil))) (.cons (.set 1 "rows" (.comp [("table", 3)] (.nm 3 "table") (.seq (.call 101 .nil)) .no (.tup (.cons (.var 3 "table") (.cons (.comp [("word", 2)] (.nm 2 "word") (.seq (.glob "WORDS" (.tuple [(.str "ends"), (.str "all"), (.str "kept"), (.str "once"), (.str "rising"), (.str "true"), (.str "one")]))) (.yes (.call 188 (.cons (.var 3 "table") (.cons (.var 0 "size") (.cons (.var 2 "word") .nil))))) (.var 2 "word")) .nil))))) (.frz 1 (.cons (.ret (.bi .tuple (.comp [("table", 3), ("words", 4)] (.tp [(3, "table"), (4, "words")]) (.seq (.var 1 "rows")) (.yes (.notE (.bi .any (.comp [("own", 5), ("other", 6)] (.tp [(5, "own"), (6, "other")]) (.seq (.var 1 "rows")) .no (.call 202 (.cons (.var 4 "words") (.cons (.var 6 "other") .nil))))))) (.var 3 "table")))) .nil))))⟩
/-- level -/
def b210 : Fd := ⟨1, 2, (.cons (.ret (.bi .tuple (.comp [("key", 1)] (.nm 1 "key") (.rng (.var 0 "many")) .no (.tup (.cons (.var 1 "key") (.cons (.cst (.int 0)) .nil)))))) .nil)⟩
/-- stairs -/
def b211 : Fd := ⟨2, 3, (.cons (.ret (.bi .tuple (.comp [("key", 2)] (.nm 2 "key") (.rng2 (.var 0 "begin") (.bin .add (.var 0 "begin") (.var 1 "many"))) .no (.tup (.cons (.var 2 "key") (.cons (.var 2 "key") .nil)))))) .nil)⟩
/-- missing -/
def b212 : Fd := ⟨2, 2, (.cons (.ife (.notE (.call 185 (.cons (.var 0 "table") .nil))) (.cons (.ret (.tup (.cons (.call 210 (.cons (.bin .add (.var 1 "size") (.cst (.int 1))) .nil)) (.cons (.tup (.cons (.glob "PAGE" (.tuple [(.str "page")])) (.cons (.glob "PAGE" (.tuple [(.str "page")])) .nil))) .nil)))) .nil) .nil) (.cons (.ife (.cmp .eq (.ix (.var 0 "table") (.glob "MARK" (.int 1))) (.cst (.int 0))) (.cons (.ret (.tup (.cons (.call 211 (.cons (.cst (.int 0)) (.cons (.bin .add (.var 1 "size") (.cst (.int 1))) .nil))) (.cons (.tup (.cons (.glob "PAGE" (.tuple [(.str "page")])) (.cons (.tup (.cons (.cst (.str "drop")) (.cons (.cst (.int 0)) .nil))) (.cons (.glob "PAGE" (.tuple [(.str "page")])) .nil)))) .nil)))) .nil) .nil) (.cons (.ret (.tup (.cons (.call 211 (.cons (.cst (.int 0)) (.cons (.bin .add (.var 1 "size") (.cst (.int 1))) .nil))) (.cons (.tup (.cons (.glob "PAGE" (.tuple [(.str "page")])) (.cons (.tup (.cons (.cst (.str "drop")) (.cons (.bin .sub (.var 1 "size") (.cst (.int 1))) .nil))) (.cons (.glob "PAGE" (.tuple [(.str "page")])) .nil)))) .nil)))) .nil)))⟩
/-- losing -/
def b213 : Fd := ⟨2, 5, (.cons (.ife (.notE (.call 188 (.cons (.var 0 "table") (.cons (.var 1 "size") (.cons (.cst (.str "all")) .nil))))) (.cons (.ret (.call 212 (.cons (.var 0 "table") (.cons (.var 1 "size") .nil)))) .nil) .nil) (.cons (.set 2 "rows" (.bi .tuple (.comp [("key", 3)] (.nm 3 "key") (.rng (.bin .add (.var 1 "size") (.cst (.int 1)))) .no (.tup (.cons (.var 3 "key") (.cons (.bin .add (.var 3 "key") (.cst (.int 1))) .nil)))))) (.cons (.set 4 "more" (.ife (.call 187 (.cons (.var 0 "table") (.cons (.var 1 "size") .nil))) (.tup (.cons (.tup (.cons (.cst (.str "drop")) (.cons (.cst (.int 0)) .nil))) .nil)) (.tup .nil))) (.cons (.ret (.tup (.cons (.var 2 "rows") (.cons (.bin .add (.bin .add (.tup (.cons (.glob "PAGE" (.tuple [(.str "page")])) (.cons (.tup (.cons (.cst (.str "put")) (.cons (.var 1 "size") (.cons (.cst (.int 0)) .nil)))) .nil))) (.var 4 "more")) (.tup (.cons (.glob "PAGE" (.tuple [(.str "page")])) .nil))) .nil)))) .nil))))⟩
/-- doubling -/
def b214 : Fd := ⟨2, 3, (.cons (.ife (.bop false (.cons (.cmp .gt (.ix (.var 0 "table") (.glob "MARK" (.int 1))) (.cst (.int 0))) (.cons (.cmp .eq (.ix (.var 0 "table") (.glob "SAME" (.int 2))) (.cst (.int 1))) .nil))) (.cons (.ret (.tup (.cons (.call 211 (.cons (.cst (.int 0)) (.cons (.var 1 "size") .nil))) (.cons (.tup (.cons (.glob "PAGE" (.tuple [(.str "page")])) (.cons (.glob "PAGE" (.tuple [(.str "page")])) .nil))) .nil)))) .nil) .nil) (.cons (.ife (.cmp .eq (.ix (.var 0 "table") (.glob "MARK" (.int 1))) (.cst (.int 0))) (.cons (.ret (.tup (.cons (.call 211 (.cons (.cst (.int 1)) (.cons (.var 1 "size") .nil))) (.cons (.tup (.cons (.glob "PAGE" (.tuple [(.str "page")])) (.cons (.tup (.cons (.cst (.str "put")) (.cons (.cst (.int 0)) (.cons (.cst (.int 0)) .nil)))) (.cons (.glob "PAGE" (.tuple [(.str "page")])) .nil)))) .nil)))) .nil) .nil) (.cons (.set 2 "ahead" (.ife (.cmp .gt (.var 1 "size") (.cst (.int 1))) (.tup (.cons (.glob "PAGE" (.tuple [(.str "page")])) .nil)) (.tup (.cons (.glob "PAGE" (.tuple [(.str "page")])) (.cons (.glob "PAGE" (.tuple [(.str "page")])) .nil))))) (.cons (.ife (.cmp .eq (.ix (.var 0 "table") (.glob "GONE" (.int 5))) (.cst (.int 1))) (.cons (.ret (.tup (.cons (.call 211 (.cons (.cst (.int 0)) (.cons (.bin .add (.var 1 "size") (.cst (.int 1))) .nil))) (.cons (.bin .add (.var 2 "ahead") (.tup (.cons (.tup (.cons (.cst (.str "drop")) (.cons (.ife (.cmp .gt (.var 1 "size") (.cst (.int 1))) (.bin .sub (.var 1 "size") (.cst (.int 1))) (.cst (.int 1))) .nil))) (.cons (.glob "PAGE" (.tuple [(.str "page")])) .nil)))) .nil)))) .nil) .nil) (.cons (.ret (.tup (.cons (.call 211 (.cons (.cst (.int 0)) (.cons (.mx true (.var 1 "size") (.cst (.int 2))) .nil))) (.cons (.bin .add (.var 2 "ahead") (.tup (.cons (.tup (.cons (.cst (.str "put")) (.cons (.cst (.int 0)) (.cons (.cst (.int 5)) .nil)))) (.cons (.glob "PAGE" (.tuple [(.str "page")])) .nil)))) .nil)))) .nil)))))⟩
/-- falling -/
def b215 : Fd := ⟨2, 4, (.cons (.ife (.cmp .eq (.ix (.var 0 "table") (.glob "VIEW" (.int 3))) (.cst (.int 1))) (.cons (.ret (.tup (.cons (.call 210 (.cons (.var 1 "size") .nil)) (.cons (.tup (.cons (.glob "PAGE" (.tuple [(.str "page")])) (.cons (.glob "PAGE" (.tuple [(.str "page")])) .nil))) .nil)))) .nil) .nil) (.cons (.ife (.cmp .eq (.ix (.var 0 "table") (.glob "MARK" (.int 1))) (.cst (.int 0))) (.cons (.set 2 "rows" (.bi .tuple (.comp [("key", 3)] (.nm 3 "key") (.rng2 (.bin .add (.var 1 "size") (.cst (.int 1))) (.bin .add (.bin .mul (.cst (.int 2)) (.var 1 "size")) (.cst (.int 1)))) .no (.tup (.cons (.var 3 "key") (.cons (.cst (.int 1)) .nil)))))) (.cons (.ret (.tup (.cons (.var 2 "rows") (.cons (.bin .add (.bin .add (.tup (.cons (.glob "PAGE" (.tuple [(.str "page")])) .nil)) (.bi .tuple (.comp [("key", 3)] (.nm 3 "key") (.rng (.bin .add (.var 1 "size") (.cst (.int 1)))) .no (.tup (.cons (.cst (.str "put")) (.cons (.var 3 "key") (.cons (.cst (.int 0)) .nil))))))) (.tup (.cons (.glob "PAGE" (.tuple [(.str "page")])) .nil))) .nil)))) .nil)) .nil) (.cons (.set 2 "rows" (.bi .tuple (.comp [("key", 3)] (.nm 3 "key") (.rng2 (.cst (.int 1)) (.bin .add (.var 1 "size") (.cst (.int 1)))) .no (.tup (.cons (.var 3 "key") (.cons (.cst (.int 1)) .nil)))))) (.cons (.ife (.cmp .eq (.ix (.var 0 "table") (.glob "GONE" (.int 5))) (.cst (.int 1))) (.cons (.ret (.tup (.cons (.var 2 "rows") (.cons (.tup (.cons (.glob "PAGE" (.tuple [(.str "page")])) (.cons (.tup (.cons (.cst (.str "drop")) (.cons (.var 1 "size") .nil))) (.cons (.tup (.cons (.cst (.str "put")) (.cons (.cst (.int 0)) (.cons (.cst (.int 0)) .nil)))) (.cons (.glob "PAGE" (.tuple [(.str "page")])) .nil))))) .nil)))) .nil) .nil) (.cons (.ret (.tup (.cons (.var 2 "rows") (.cons (.tup (.cons (.glob "PAGE" (.tuple [(.str "page")])) (.cons (.tup (.cons (.cst (.str "put")) (.cons (.cst (.int 0)) (.cons (.cst (.int 1)) .nil)))) (.cons (.glob "PAGE" (.tuple [(.str "page")])) .nil)))) .nil)))) .nil)))))⟩
/-- mixing -/
def b216 : Fd := ⟨2, 5, (.cons (.ife (.notE (.call 185 (.cons (.var 0 "table") .nil))) (.cons (.ret (.tup (.cons (.call 210 (.cons (.bin .add (.var 1 "size") (.cst (.int 1))) .nil)) (.cons (.tup (.cons (.glob "PAGE" (.tuple [(.str "page")])) (.cons (.glob "PAGE" (.tuple [(.str "page")])) .nil))) .nil)))) .nil) .nil) (.cons (.ife (.bop true (.cons (.cmp .eq (.ix (.var 0 "table") (.glob "MARK" (.int 1))) (.cst (.int 0))) (.cons (.bop false (.cons (.cmp .eq (.ix (.var 0 "table") (.glob "GONE" (.int 5))) (.cst (.int 2))) (.cons (.cmp .eq (.var 1 "size") (.cst (.int 1))) .nil))) .nil))) (.cons (.ret (.tup (.cons (.call 211 (.cons (.cst (.int 0)) (.cons (.bin .add (.var 1 "size") (.cst (.int 1))) .nil))) (.cons (.tup (.cons (.glob "PAGE" (.tuple [(.str "page")])) (.cons (.tup (.cons (.cst (.str "drop")) (.cons (.cst (.int 0)) .nil))) (.cons (.glob "PAGE" (.tuple [(.str "page")])) .nil)))) .nil)))) .nil) .nil) (.cons (.setP [(2, "rows"), (3, "history")] (.cons (.call 211 (.cons (.cst (.int 0)) (.cons (.var 1 "size") .nil))) (.cons (.tup (.cons (.glob "PAGE" (.tuple [(.str "page")])) (.cons (.tup (.cons (.cst (.str "drop")) (.cons (.cst (.int 0)) .nil))) (.cons (.tup (.cons (.cst (.str "put")) (.cons (.cst (.int 9)) (.cons (.cst (.int 5)) .nil)))) (.cons (.glob "PAGE" (.tuple [(.str "page")])) .nil))))) .nil))) (.frz 2 (.cons (.ife (.call 187 (.cons (.var 0 "table") (.cons (.var 1 "size") .nil))) (.cons (.ret (.tup (.cons (.var 2 "rows") (.cons (.bin .add (.var 3 "history") (.tup (.cons (.tup (.cons (.cst (.str "drop")) (.cons (.cst (.int 9)) .nil))) (.cons (.glob "PAGE" (.tuple [(.str "page")])) .nil)))) .nil)))) .nil) .nil) (.cons (.set 4 "many" (.call 150 (.cons (.var 0 "table") (.cons (.var 1 "size") (.cons (.ix (.call 138 (.cons (.var 0 "table") (.cons (.var 1 "size") (.cons (.var 2 "rows") (.cons (.var 3 "history") .nil))))) (.neg (.cst (.int 1)))) .nil))))) (.frz 4 (.cons (.ret (.tup (.cons (.var 2 "rows") (.cons (.bin .add (.var 3 "history") (.bin .mul (.tup (.cons (.glob "PAGE" (.tuple [(.str "page")])) .nil)) (.var 4 "many"))) .nil)))) .nil))))))))⟩
/-- shown_in -/
def b217 : Fd := ⟨3, 3, (.cons (.ife (.cmp .eq (.var 2 "word") (.cst (.str "ends"))) (.cons (.ret (.tup (.cons (.call 210 (.cons (.var 1 "size") .nil)) (.cons (.tup (.cons (.glob "PAGE" (.tuple [(.str "page")])) .nil)) .nil)))) .nil) .nil) (.cons (.ife (.cmp .eq (.var 2 "word") (.cst (.str "all"))) (.cons (.ret (.call 212 (.cons (.var 0 "table") (.cons (.var 1 "size") .nil)))) .nil) .nil) (.cons (.ife (.cmp .eq (.var 2 "word") (.cst (.str "kept"))) (.cons (.ret (.call 213 (.cons (.var 0 "table") (.cons (.var 1 "size") .nil)))) .nil) .nil) (.cons (.ife (.cmp .eq (.var 2 "word") (.cst (.str "once"))) (.cons (.ret (.call 214 (.cons (.var 0 "table") (.cons (.var 1 "size") .nil)))) .nil) .nil) (.cons (.ife (.cmp .eq (.var 2 "word") (.cst (.str "rising"))) (.cons (.ret (.call 215 (.cons (.var 0 "table") (.cons (.var 1 "size") .nil)))) .nil) .nil) (.cons (.ife (.cmp .eq (.var 2 "word") (.cst (.str "true"))) (.cons (.ret (.tup (.cons (.call 211 (.cons (.cst (.int 0)) (.cons (.bin .add (.var 1 "size") (.cst (.int 1))) .nil))) (.cons (.tup (.cons (.glob "PAGE" (.tuple [(.str "page")])) (.cons (.tup (.cons (.cst (.str "drop")) (.cons (.ife (.call 187 (.cons (.var 0 "table") (.cons (.var 1 "size") .nil))) (.cst (.int 0)) (.var 1 "size")) .nil))) (.cons (.glob "PAGE" (.tuple [(.str "page")])) .nil)))) .nil)))) .nil) .nil) (.cons (.ret (.call 216 (.cons (.var 0 "table") (.cons (.var 1 "size") .nil)))) .nil)))))))⟩
/-- fits_breach -/
def b218 : Fd := ⟨4, 4, (.cons (.ife (.bop true (.cons (.notE (.call 0 (.cons (.var 3 "value") (.cons (.cst (.int 2)) (.cons (.cst (.int 2)) .nil))))) (.cons (.notE (.call 3 (.cons (.ix (.var 3 "value") (.cst (.int 0))) .nil))) (.cons (.notE (.call 8 (.cons (.ix (.var 3 "value") (.cst (.int 1))) .nil))) .nil)))) (.cons (.ret (.cst (.bool false))) .nil) .nil) (.cons (.ret (.notE (.call 163 (.cons (.var 0 "table") (.cons (.var 1 "size") (.cons (.ix (.var 3 "value") (.cst (.int 0))) (.cons (.ix (.var 3 "value") (.cst (.int 1))) (.cons (.var 2 "word") .nil)))))))) .nil))⟩
/-- need_three -/
def b219 : Fd := ⟨3, 3, (.cons (.expr (.call 95 (.cons (.var 0 "table") .nil))) (.cons (.expr (.call 85 (.cons (.var 1 "size") .nil))) (.cons (.expr (.call 164 (.cons (.var 2 "word") .nil))) .nil)))⟩
/-- shown -/
def b220 : Fd := ⟨3, 3, (.cons (.expr (.call 219 (.cons (.var 0 "table") (.cons (.var 1 "size") (.cons (.var 2 "word") .nil))))) (.cons (.ret (.ife (.notE (.call 188 (.cons (.var 0 "table") (.cons (.var 1 "size") (.cons (.var 2 "word") .nil))))) (.call 217 (.cons (.var 0 "table") (.cons (.var 1 "size") (.cons (.var 2 "word") .nil)))) (.cst .none))) .nil))⟩
/-- is_breach -/
def b221 : Fd := ⟨4, 4, (.cons (.expr (.call 219 (.cons (.var 0 "table") (.cons (.var 1 "size") (.cons (.var 2 "word") .nil))))) (.cons (.ret (.call 218 (.cons (.var 0 "table") (.cons (.var 1 "size") (.cons (.var 2 "word") (.cons (.var 3 "value") .nil)))))) .nil))⟩
/-- breach_end -/
def b223 : Fd := ⟨4, 4, (.cons (.expr (.call 219 (.cons (.var 0 "table") (.cons (.var 1 "size") (.cons (.var 2 "word") .nil))))) (.cons (.ife (.notE (.call 218 (.cons (.var 0 "table") (.cons (.var 1 "size") (.cons (.var 2 "word") (.cons (.var 3 "breach") .nil)))))) (.cons (.raise 2) .nil) .nil) (.cons (.ret (.ix (.ix (.call 138 (.cons (.var 0 "table") (.cons (.var 1 "size") (.cons (.ix (.var 3 "breach") (.cst (.int 0))) (.cons (.ix (.var 3 "breach") (.cst (.int 1))) .nil))))) (.neg (.cst (.int 1)))) (.cst (.int 2)))) .nil)))⟩
/-- all_shown -/
def b225 : Fd := ⟨2, 3, (.cons (.expr (.call 95 (.cons (.var 0 "table") .nil))) (.cons (.expr (.call 85 (.cons (.var 1 "size") .nil))) (.cons (.ret (.bi .tuple (.comp [("word", 2)] (.nm 2 "word") (.seq (.glob "WORDS" (.tuple [(.str "ends"), (.str "all"), (.str "kept"), (.str "once"), (.str "rising"), (.str "true"), (.str "one")]))) (.yes (.notE (.call 188 (.cons (.var 0 "table") (.cons (.var 1 "size") (.cons (.var 2 "word") .nil)))))) (.bin .add (.tup (.cons (.var 2 "word") .nil)) (.call 217 (.cons (.var 0 "table") (.cons (.var 1 "size") (.cons (.var 2 "word") .nil)))))))) .nil)))⟩
/-- breaks_too -/
def b226 : Fd := ⟨4, 5, (.cons (.expr (.call 219 (.cons (.var 0 "table") (.cons (.var 1 "size") (.cons (.var 2 "word") .nil))))) (.cons (.ife (.notE (.call 218 (.cons (.var 0 "table") (.cons (.var 1 "size") (.cons (.var 2 "word") (.cons (.var 3 "breach") .nil)))))) (.cons (.raise 2) .nil) .nil) (.cons (.ret (.bi .tuple (.comp [("own", 4)] (.nm 4 "own") (.seq (.glob "WORDS" (.tuple [(.str "ends"), (.str "all"), (.str "kept"), (.str "once"), (.str "rising"), (.str "true"), (.str "one")]))) (.yes (.notE (.call 163 (.cons (.var 0 "table") (.cons (.var 1 "size") (.cons (.ix (.var 3 "breach") (.cst (.int 0))) (.cons (.ix (.var 3 "breach") (.cst (.int 1))) (.cons (.var 4 "own") .nil)))))))) (.var 4 "own")))) .nil)))⟩
/-- tables_broken -/
def b227 : Fd := ⟨4, 5, (.cons (.expr (.call 85 (.cons (.var 0 "size") .nil))) (.cons (.expr (.call 164 (.cons (.var 1 "word") .nil))) (.cons (.ife (.bop true (.cons (.notE (.call 3 (.cons (.var 2 "rows") .nil))) (.cons (.notE (.call 8 (.cons (.var 3 "history") .nil))) .nil))) (.cons (.raise 2) .nil) .nil) (.cons (.ret (.bi .len (.comp [("table", 4)] (.nm 4 "table") (.seq (.call 101 .nil)) (.yes (.notE (.call 163 (.cons (.var 4 "table") (.cons (.var 0 "size") (.cons (.var 2 "rows") (.cons (.var 3 "history") (.cons (.var 1 "word") .nil)))))))) (.cst (.int 1))))) .nil))))⟩
/-- fits_row -/
def b233 : Fd := ⟨1, 1, (.cons (.ret (.bop false (.cons (.call 0 (.cons (.var 0 "value") (.cons (.cst (.int 2)) (.cons (.cst (.int 2)) .nil)))) (.cons (.call 1 (.cons (.ix (.var 0 "value") (.glob "KEY" (.int 0))) (.cons (.cst (.int 0)) (.cons (.bin .sub (.glob "KEYS_lists" (.int 10)) (.cst (.int 1))) .nil)))) (.cons (.call 1 (.cons (.ix (.var 0 "value") (.glob "RANK" (.int 1))) (.cons (.cst (.int 0)) (.cons (.bin .sub (.glob "RANKS_lists" (.int 6)) (.cst (.int 1))) .nil)))) .nil))))) .nil)⟩
/-- fits_list -/
def b234 : Fd := ⟨1, 4, (.cons (.ife (.bop true (.cons (.notE (.call 0 (.cons (.var 0 "value") (.cons (.cst (.int 0)) (.cons (.glob "KEYS_lists" (.int 10)) .nil))))) (.cons (.notE (.bi .all (.comp [("own", 1)] (.nm 1 "own") (.seq (.var 0 "value")) .no (.call 233 (.cons (.var 1 "own") .nil))))) .nil))) (.cons (.ret (.cst (.bool false))) .nil) .nil) (.cons (.ret (.bi .all (.comp [("one", 2), ("other", 3)] (.tp [(2, "one"), (3, "other")]) (.zip (.var 0 "value") (.sl (.var 0 "value") (.yes (.cst (.int 1))) .no)) .no (.cmp .lt (.ix (.var 2 "one") (.glob "KEY" (.int 0))) (.ix (.var 3 "other") (.glob "KEY" (.int 0))))))) .nil))⟩
/-- fits_change -/
def b235 : Fd := ⟨1, 1, (.cons (.ife (.bop true (.cons (.notE (.call 0 (.cons (.var 0 "value") (.cons (.cst (.int 2)) (.cons (.cst (.int 3)) .nil))))) (.cons (.notE (.bi (.isi .str) (.ix (.var 0 "value") (.cst (.int 0))))) .nil))) (.cons (.ret (.cst (.bool false))) .nil) .nil) (.cons (.ife (.cmp .eq (.ix (.var 0 "value") (.cst (.int 0))) (.cst (.str "put"))) (.cons (.ret (.bop false (.cons (.cmp .eq (.bi .len (.var 0 "value")) (.cst (.int 3))) (.cons (.call 233 (.cons (.sl (.var 0 "value") (.yes (.cst (.int 1))) .no) .nil)) .nil)))) .nil) .nil) (.cons (.ret (.bop false (.cons (.cmp .eq (.ix (.var 0 "value") (.cst (.int 0))) (.cst (.str "drop"))) (.cons (.cmp .eq (.bi .len (.var 0 "value")) (.cst (.int 2))) (.cons (.call 1 (.cons (.ix (.var 0 "value") (.cst (.int 1))) (.cons (.cst (.int 0)) (.cons (.bin .sub (.glob "KEYS_lists" (.int 10)) (.cst (.int 1))) .nil)))) .nil))))) .nil)))⟩
/-- fits_reading -/
def b237 : Fd := ⟨1, 2, (.cons (.ife (.bop true (.cons (.notE (.call 0 (.cons (.var 0 "value") (.cons (.cst (.int 6)) (.cons (.cst (.int 6)) .nil))))) (.cons (.notE (.call 234 (.cons (.ix (.var 0 "value") (.glob "NOW" (.int 0))) .nil))) .nil))) (.cons (.ret (.cst (.bool false))) .nil) .nil) (.cons (.ife (.bop true (.cons (.notE (.call 0 (.cons (.ix (.var 0 "value") (.glob "GOT" (.int 2))) (.cons (.cst (.int 0)) (.cons (.glob "FAR" (.int 400)) .nil))))) (.cons (.notE (.bi .all (.comp [("own", 1)] (.nm 1 "own") (.seq (.ix (.var 0 "value") (.glob "GOT" (.int 2)))) .no (.call 233 (.cons (.var 1 "own") .nil))))) .nil))) (.cons (.ret (.cst (.bool false))) .nil) .nil) (.cons (.ife (.bop true (.cons (.notE (.call 1 (.cons (.ix (.var 0 "value") (.glob "SENT" (.int 3))) (.cons (.cst (.int 0)) (.cons (.glob "FAR" (.int 400)) .nil))))) (.cons (.notE (.call 1 (.cons (.ix (.var 0 "value") (.glob "OVER" (.int 5))) (.cons (.cst (.int 0)) (.cons (.cst (.int 1)) .nil))))) .nil))) (.cons (.ret (.cst (.bool false))) .nil) .nil) (.cons (.ife (.cmp .is (.ix (.var 0 "value") (.glob "FIRST" (.int 1))) (.cst .none)) (.cons (.ret (.cmp .eq (.sl (.var 0 "value") (.yes (.cst (.int 2))) .no) (.tup (.cons (.tup .nil) (.cons (.cst (.int 0)) (.cons (.cst .none) (.cons (.cst (.int 0)) .nil))))))) .nil) .nil) (.cons (.ret (.bop false (.cons (.call 234 (.cons (.ix (.var 0 "value") (.glob "FIRST" (.int 1))) .nil)) (.cons (.bop true (.cons (.cmp .is (.ix (.var 0 "value") (.glob "LAST" (.int 4))) (.cst .none)) (.cons (.call 233 (.cons (.ix (.var 0 "value") (.glob "LAST" (.int 4))) .nil)) .nil))) .nil)))) .nil)))))⟩
/-- need_reading -/
def b238 : Fd := ⟨1, 1, (.cons (.ife (.notE (.call 237 (.cons (.var 0 "value") .nil))) (.cons (.raise 8) .nil) .nil) .nil)⟩
/-- fits_world -/
def b244 : Fd := ⟨1, 2, (.cons (.ret (.bop false (.cons (.call 0 (.cons (.var 0 "value") (.cons (.cst (.int 2)) (.cons (.cst (.int 2)) .nil)))) (.cons (.bi .all (.comp [("own", 1)] (.nm 1 "own") (.seq (.var 0 "value")) .no (.call 1 (.cons (.var 1 "own") (.cons (.cst (.int 1)) (.cons (.glob "FEW" (.int 3)) .nil)))))) .nil)))) .nil)⟩
/-- steps_in -/
def b245 : Fd := ⟨1, 4, (.cons (.set 1 "drops" (.comp [("key", 2)] (.nm 2 "key") (.rng (.ix (.var 0 "world") (.glob "KEYS_reached" (.int 0)))) .no (.tup (.cons (.cst (.str "drop")) (.cons (.var 2 "key") .nil))))) (.frz 1 (.cons (.ret (.bin .add (.bin .add (.var 1 "drops") (.lst (.cons (.glob "PAGE" (.tuple [(.str "page")])) .nil))) (.comp2 [("key", 2), ("rank", 3)] [3] (.nm 2 "key") (.rng (.ix (.var 0 "world") (.glob "KEYS_reached" (.int 0)))) .no (.nm 3 "rank") (.rng (.ix (.var 0 "world") (.glob "RANKS_reached" (.int 1)))) .no (.tup (.cons (.cst (.str "put")) (.cons (.var 2 "key") (.cons (.var 3 "rank") .nil))))))) .nil)))⟩
/-- need_world -/
def b247 : Fd := ⟨1, 1, (.cons (.ife (.notE (.call 244 (.cons (.var 0 "value") .nil))) (.cons (.raise 4) .nil) .nil) .nil)⟩
/-- world_steps -/
def b249 : Fd := ⟨1, 1, (.cons (.expr (.call 247 (.cons (.var 0 "world") .nil))) (.cons (.ret (.bi .tuple (.call 245 (.cons (.var 0 "world") .nil)))) .nil))⟩
/-- sketch_of -/
def b250 : Fd := ⟨2, 2, (.cons (.expr (.call 95 (.cons (.var 0 "table") .nil))) (.cons (.expr (.call 238 (.cons (.var 1 "reading") .nil))) (.cons (.ret (.call 246 (.cons (.var 0 "table") (.cons (.var 1 "reading") .nil)))) .nil)))⟩
/-- steps_in -/
def b255 : Fd := ⟨1, 4, (.cons (.set 1 "drops" (.comp [("key", 2)] (.nm 2 "key") (.rng (.ix (.var 0 "world") (.glob "KEYS" (.int 0)))) .no (.tup (.cons (.cst (.str "drop")) (.cons (.var 2 "key") .nil))))) (.frz 1 (.cons (.ret (.bin .add (.bin .add (.var 1 "drops") (.lst (.cons (.glob "PAGE" (.tuple [(.str "page")])) .nil))) (.comp2 [("key", 2), ("rank", 3)] [3] (.nm 2 "key") (.rng (.ix (.var 0 "world") (.glob "KEYS" (.int 0)))) .no (.nm 3 "rank") (.rng (.ix (.var 0 "world") (.glob "RANKS" (.int 1)))) .no (.tup (.cons (.cst (.str "put")) (.cons (.var 2 "key") (.cons (.var 3 "rank") .nil))))))) .nil)))⟩
/-- watch_begun -/
def b256 : Fd := ⟨1, 1, (.cons (.ret (.ife (.cmp .eq (.var 0 "word") (.cst (.str "once"))) (.tup .nil) (.cst .none))) .nil)⟩
/-- watch_changed -/
def b257 : Fd := ⟨3, 4, (.cons (.ife (.bop true (.cons (.cmp .is (.var 1 "watch") (.cst .none)) (.cons (.cmp .notin (.var 0 "word") (.tup (.cons (.cst (.str "all")) (.cons (.cst (.str "kept")) .nil)))) .nil))) (.cons (.ret (.var 1 "watch")) .nil) .nil) (.cons (.ret (.bi .tuple (.comp [("own", 3)] (.nm 3 "own") (.seq (.var 1 "watch")) (.yes (.cmp .in_ (.var 3 "own") (.ife (.cmp .eq (.var 0 "word") (.cst (.str "all"))) (.var 2 "rows") (.call 50 (.cons (.var 2 "rows") .nil))))) (.var 3 "own")))) .nil))⟩
/-- broken_by -/
def b259 : Fd := ⟨7, 9, (.cons (.ife (.cmp .eq (.var 1 "word") (.cst (.str "once"))) (.cons (.ret (.bi .any (.comp [("key", 7)] (.nm 7 "key") (.seq (.call 50 (.cons (.var 5 "got") .nil))) .no (.cmp .in_ (.var 7 "key") (.var 2 "watch"))))) .nil) .nil) (.cons (.ife (.cmp .eq (.var 1 "word") (.cst (.str "rising"))) (.cons (.ret (.bop false (.cons (.cmp .isnot (.var 2 "watch") (.cst .none)) (.cons (.bi .any (.comp [("own", 8)] (.nm 8 "own") (.seq (.var 5 "got")) .no (.cmp .lt (.call 70 (.cons (.ix (.var 0 "table") (.glob "ORDER" (.int 0))) (.cons (.var 8 "own") .nil))) (.var 2 "watch")))) .nil)))) .nil) .nil) (.cons (.ife (.cmp .eq (.var 1 "word") (.cst (.str "true"))) (.cons (.ret (.bi .any (.comp [("own", 8)] (.nm 8 "own") (.seq (.var 5 "got")) .no (.cmp .notin (.var 8 "own") (.var 4 "now"))))) .nil) .nil) (.cons (.ret (.bop false (.cons (.cmp .in_ (.var 1 "word") (.tup (.cons (.cst (.str "all")) (.cons (.cst (.str "kept")) .nil)))) (.cons (.cmp .eq (.var 6 "over") (.cst (.int 1))) (.cons (.cmp .ne (.var 3 "later") (.tup .nil)) .nil))))) .nil))))⟩
/-- node_behind -/
def b260 : Fd := ⟨5, 12, (.cons (.setT (.tp [(5, "sketch"), (6, "watch")]) (.var 3 "node")) (.cons (.set 7 "later" (.call 137 (.cons (.var 0 "table") (.cons (.var 1 "size") (.cons (.var 5 "sketch") (.cons (.var 4 "step") .nil)))))) (.frz 7 (.cons (.set 8 "new" (.call 246 (.cons (.var 0 "table") (.cons (.var 7 "later") .nil)))) (.frz 8 (.cons (.ife (.cmp .ne (.var 4 "step") (.glob "PAGE" (.tuple [(.str "page")]))) (.cons (.setP [(9, "mind"), (10, "broken")] (.cons (.call 257 (.cons (.var 2 "word") (.cons (.var 6 "watch") (.cons (.ix (.var 7 "later") (.glob "NOW" (.int 0))) .nil)))) (.cons (.cst (.bool false)) .nil))) .nil) (.cons (.set 11 "got" (.sl (.ix (.var 7 "later") (.glob "GOT" (.int 2))) (.yes (.bi .len (.ix (.var 5 "sketch") (.glob "GOT" (.int 2))))) .no)) (.frz 11 (.cons (.set 9 "mind" (.call 258 (.cons (.var 0 "table") (.cons (.var 2 "word") (.cons (.var 6 "watch") (.cons (.ix (.var 5 "sketch") (.glob "NOW" (.int 0))) (.cons (.var 11 "got") .nil))))))) (.frz 9 (.cons (.set 10 "broken" (.call 259 (.cons (.var 0 "table") (.cons (.var 2 "word") (.cons (.var 6 "watch") (.cons (.var 9 "mind") (.cons (.ix (.var 5 "sketch") (.glob "NOW" (.int 0))) (.cons (.var 11 "got") (.cons (.ix (.var 7 "later") (.glob "OVER" (.int 5))) .nil))))))))) .nil)))))) (.cons (.ife (.bop false (.cons (.cmp .eq (.var 2 "word") (.cst (.str "ends"))) (.cons (.cmp .is (.call 150 (.cons (.var 0 "table") (.cons (.var 1 "size") (.cons (.var 8 "new") .nil)))) (.cst .none)) .nil))) (.cons (.set 10 "broken" (.cst (.bool true))) .nil) .nil) (.cons (.ret (.tup (.cons (.tup (.cons (.var 8 "new") (.cons (.var 9 "mind") .nil))) (.cons (.var 10 "broken") .nil)))) .nil))))))))⟩
/-- row_to -/
def b262 : Fd := ⟨2, 4, (.cons (.set 2 "row" (.lst .nil)) (.cons (.whl fuel (.cmp .isnot (.ix (.var 0 "found") (.var 1 "node")) (.cst .none)) (.cons (.setT (.tp [(1, "node"), (3, "step")]) (.ix (.var 0 "found") (.var 1 "node"))) (.cons (.app 2 "row" (.var 3 "step")) .nil))) (.frz 2 (.cons (.ret (.bi .tuple (.rev (.var 2 "row")))) .nil))))⟩
/-- need_three -/
def b263 : Fd := ⟨3, 3, (.cons (.expr (.call 95 (.cons (.var 0 "table") .nil))) (.cons (.expr (.call 85 (.cons (.var 1 "size") .nil))) (.cons (.expr (.call 247 (.cons (.var 2 "world") .nil))) .nil)))⟩
/-- _law_steps -/
def b268 : Fd := ⟨1, 4, (.cons (.set 1 "puts" (.lst .nil)) (.cons (.forS (.nm 2 "key") (.rng (.ix (.var 0 "world") (.cst (.int 0)))) (.cons (.set 1 "puts" (.bin .add (.var 1 "puts") (.comp [("rank", 3)] (.nm 3 "rank") (.rng (.ix (.var 0 "world") (.cst (.int 1)))) .no (.tup (.cons (.cst (.str "put")) (.cons (.var 2 "key") (.cons (.var 3 "rank") .nil))))))) .nil)) (.cons (.ret (.bin .add (.bin .add (.comp [("key", 2)] (.nm 2 "key") (.rng (.ix (.var 0 "world") (.cst (.int 0)))) .no (.tup (.cons (.cst (.str "drop")) (.cons (.var 2 "key") .nil)))) (.lst (.cons (.tup (.cons (.cst (.str "page")) .nil)) .nil))) (.var 1 "puts"))) .nil)))⟩
/-- _law_next -/
def b269 : Fd := ⟨4, 6, (.cons (.setP [(4, "now"), (5, "reading")] (.cons (.ix (.var 2 "sketch") (.cst (.int 0))) (.cons (.sl (.var 2 "sketch") (.yes (.cst (.int 1))) .no) .nil))) (.frz 5 (.cons (.ife (.cmp .eq (.var 3 "step") (.tup (.cons (.cst (.str "page")) .nil))) (.cons (.ret (.call 251 (.cons (.var 0 "table") (.cons (.var 4 "now") (.cons (.call 118 (.cons (.var 0 "table") (.cons (.var 1 "size") (.cons (.var 4 "now") (.cons (.var 5 "reading") .nil))))) .nil))))) .nil) .nil) (.cons (.ret (.call 251 (.cons (.var 0 "table") (.cons (.call 57 (.cons (.var 4 "now") (.cons (.var 3 "step") .nil))) (.cons (.var 5 "reading") .nil))))) .nil))))⟩
/-- need_list -/
def b274 : Fd := ⟨1, 1, (.cons (.ife (.notE (.call 234 (.cons (.var 0 "value") .nil))) (.cons (.raise 0) .nil) .nil) .nil)⟩
/-- fits_step -/
def b275 : Fd := ⟨1, 1, (.cons (.ret (.bop true (.cons (.bop false (.cons (.cmp .eq (.var 0 "value") (.glob "PAGE" (.tuple [(.str "page")]))) (.cons (.bi (.isi .tuple) (.var 0 "value")) .nil))) (.cons (.call 235 (.cons (.var 0 "value") .nil)) .nil)))) .nil)⟩
/-- fits_history -/
def b276 : Fd := ⟨1, 2, (.cons (.ret (.bop false (.cons (.call 0 (.cons (.var 0 "value") (.cons (.cst (.int 0)) (.cons (.glob "STEPS" (.int 60)) .nil)))) (.cons (.bi .all (.comp [("own", 1)] (.nm 1 "own") (.seq (.var 0 "value")) .no (.call 275 (.cons (.var 1 "own") .nil)))) .nil)))) .nil)⟩
/-- need_run -/
def b277 : Fd := ⟨4, 4, (.cons (.expr (.call 95 (.cons (.var 0 "table") .nil))) (.cons (.expr (.call 85 (.cons (.var 1 "size") .nil))) (.cons (.expr (.call 274 (.cons (.var 2 "rows") .nil))) (.cons (.ife (.notE (.call 276 (.cons (.var 3 "history") .nil))) (.cons (.raise 1) .nil) .nil) .nil))))⟩
/-- history_to -/
def b281 : Fd := ⟨4, 6, (.cons (.expr (.call 263 (.cons (.var 0 "table") (.cons (.var 1 "size") (.cons (.var 2 "world") .nil))))) (.cons (.expr (.call 238 (.cons (.var 3 "reading") .nil))) (.cons (.setP [(4, "found"), (5, "node")] (.cons (.ix (.call 280 (.cons (.var 0 "table") (.cons (.var 1 "size") (.cons (.var 2 "world") (.cons (.cst (.str "")) .nil))))) (.cst (.int 0))) (.cons (.tup (.cons (.call 246 (.cons (.var 0 "table") (.cons (.var 3 "reading") .nil))) (.cons (.cst .none) .nil))) .nil))) (.cons (.ret (.ife (.cmp .in_ (.var 5 "node") (.var 4 "found")) (.call 262 (.cons (.var 4 "found") (.cons (.var 5 "node") .nil))) (.cst .none))) .nil))))⟩
/-- need_watched -/
def b284 : Fd := ⟨1, 1, (.cons (.ife (.bop true (.cons (.notE (.bi (.isi .str) (.var 0 "value"))) (.cons (.cmp .notin (.var 0 "value") (.glob "WATCHED" (.tuple [(.str "ends"), (.str "all"), (.str "kept"), (.str "once"), (.str "rising"), (.str "true")]))) .nil))) (.cons (.raise 3) .nil) .nil) .nil)⟩
/-- holds_there -/
def b285 : Fd := ⟨4, 4, (.cons (.expr (.call 263 (.cons (.var 0 "table") (.cons (.var 1 "size") (.cons (.var 2 "world") .nil))))) (.cons (.expr (.call 284 (.cons (.var 3 "word") .nil))) (.cons (.ret (.cmp .is (.ix (.call 280 (.cons (.var 0 "table") (.cons (.var 1 "size") (.cons (.var 2 "world") (.cons (.var 3 "word") .nil))))) (.cst (.int 1))) (.cst .none))) .nil)))⟩
/-- least_there -/
def b286 : Fd := ⟨4, 6, (.cons (.expr (.call 263 (.cons (.var 0 "table") (.cons (.var 1 "size") (.cons (.var 2 "world") .nil))))) (.cons (.expr (.call 284 (.cons (.var 3 "word") .nil))) (.cons (.setT (.tp [(4, "found"), (5, "last")]) (.call 280 (.cons (.var 0 "table") (.cons (.var 1 "size") (.cons (.var 2 "world") (.cons (.var 3 "word") .nil)))))) (.cons (.ret (.ife (.cmp .isnot (.var 5 "last") (.cst .none)) (.bin .add (.call 262 (.cons (.var 4 "found") (.cons (.ix (.var 5 "last") (.cst (.int 0))) .nil))) (.tup (.cons (.ix (.var 5 "last") (.cst (.int 1))) .nil))) (.cst .none))) .nil))))⟩
/-- first_breach -/
def b288 : Fd := ⟨5, 6, (.cons (.expr (.call 277 (.cons (.var 0 "table") (.cons (.var 1 "size") (.cons (.var 2 "rows") (.cons (.var 3 "history") .nil)))))) (.cons (.expr (.call 164 (.cons (.var 4 "word") .nil))) (.cons (.forS (.nm 5 "many") (.rng (.bin .add (.bi .len (.var 3 "history")) (.cst (.int 1)))) (.cons (.ife (.notE (.call 163 (.cons (.var 0 "table") (.cons (.var 1 "size") (.cons (.var 2 "rows") (.cons (.sl (.var 3 "history") .no (.yes (.var 5 "many"))) (.cons (.var 4 "word") .nil))))))) (.cons (.ret (.var 5 "many")) .nil) .nil) .nil)) (.cons (.ret (.cst .none)) .nil))))⟩
/-- with_entry -/
def b299 : Fd := ⟨3, 3, (.cons (.ret (.bin .add (.bin .add (.sl (.var 0 "table") .no (.yes (.var 1 "at"))) (.tup (.cons (.var 2 "value") .nil))) (.sl (.var 0 "table") (.yes (.bin .add (.var 1 "at") (.cst (.int 1)))) .no))) .nil)⟩
/-- neighbours_in -/
def b300 : Fd := ⟨1, 5, (.cons (.set 1 "found" (.lst .nil)) (.cons (.forS (.tp [(2, "at"), (3, "most")]) (.enum (.glob "MOST" (.tuple [(.int 1), (.int 2), (.int 1), (.int 1), (.int 1), (.int 2)]))) (.cons (.aug 1 "found" false (.comp [("own", 4)] (.nm 4 "own") (.rng (.bin .add (.var 3 "most") (.cst (.int 1)))) (.yes (.cmp .ne (.var 4 "own") (.ix (.var 0 "table") (.var 2 "at")))) (.call 299 (.cons (.var 0 "table") (.cons (.var 2 "at") (.cons (.var 4 "own") .nil)))))) .nil)) (.frz 1 (.cons (.ret (.bi .sorted (.var 1 "found"))) .nil))))⟩
/-- got_by -/
def b301 : Fd := ⟨2, 2, (.cons (.ret (.sl (.ix (.var 1 "later") (.glob "GOT" (.int 2))) (.yes (.bi .len (.ix (.var 0 "reading") (.glob "GOT" (.int 2))))) .no)) .nil)⟩
/-- are_apart -/
def b302 : Fd := ⟨2, 5, (.cons (.set 2 "rows" (.comp [("here", 3), ("there", 4)] (.tp [(3, "here"), (4, "there")]) (.zip (.var 0 "pair") (.var 1 "later")) .no (.call 301 (.cons (.var 3 "here") (.cons (.var 4 "there") .nil))))) (.frz 2 (.cons (.ret (.bop true (.cons (.cmp .ne (.ix (.var 2 "rows") (.cst (.int 0))) (.ix (.var 2 "rows") (.cst (.int 1)))) (.cons (.cmp .ne (.ix (.ix (.var 1 "later") (.cst (.int 0))) (.glob "OVER" (.int 5))) (.ix (.ix (.var 1 "later") (.cst (.int 1))) (.glob "OVER" (.int 5)))) .nil)))) .nil)))⟩
/-- first_apart_in -/
def b303 : Fd := ⟨5, 9, (.cons (.set 5 "pair" (.tup (.cons (.call 93 (.cons (.var 3 "rows") .nil)) (.cons (.call 93 (.cons (.var 3 "rows") .nil)) .nil)))) (.cons (.forS (.tp [(6, "at"), (7, "step")]) (.enum (.var 4 "history")) (.cons (.set 8 "later" (.tup (.cons (.call 137 (.cons (.var 0 "one") (.cons (.var 2 "size") (.cons (.ix (.var 5 "pair") (.cst (.int 0))) (.cons (.var 7 "step") .nil))))) (.cons (.call 137 (.cons (.var 1 "other") (.cons (.var 2 "size") (.cons (.ix (.var 5 "pair") (.cst (.int 1))) (.cons (.var 7 "step") .nil))))) .nil)))) (.cons (.ife (.call 302 (.cons (.var 5 "pair") (.cons (.var 8 "later") .nil))) (.cons (.ret (.bin .add (.var 6 "at") (.cst (.int 1)))) .nil) .nil) (.cons (.set 5 "pair" (.var 8 "later")) .nil)))) (.cons (.ret (.cst .none)) .nil)))⟩
/-- neighbours -/
def b305 : Fd := ⟨1, 1, (.cons (.expr (.call 95 (.cons (.var 0 "table") .nil))) (.cons (.ret (.bi .tuple (.call 300 (.cons (.var 0 "table") .nil)))) .nil))⟩
/-- need_two -/
def b314 : Fd := ⟨3, 3, (.cons (.expr (.call 95 (.cons (.var 0 "one") .nil))) (.cons (.expr (.call 95 (.cons (.var 1 "other") .nil))) (.cons (.expr (.call 85 (.cons (.var 2 "size") .nil))) .nil)))⟩
/-- first_apart -/
def b315 : Fd := ⟨5, 5, (.cons (.expr (.call 95 (.cons (.var 0 "one") .nil))) (.cons (.expr (.call 277 (.cons (.var 1 "other") (.cons (.var 2 "size") (.cons (.var 3 "rows") (.cons (.var 4 "history") .nil)))))) (.cons (.ret (.call 303 (.cons (.var 0 "one") (.cons (.var 1 "other") (.cons (.var 2 "size") (.cons (.var 3 "rows") (.cons (.var 4 "history") .nil))))))) .nil)))⟩
/-- are_alike_there -/
def b317 : Fd := ⟨4, 4, (.cons (.expr (.call 314 (.cons (.var 0 "one") (.cons (.var 1 "other") (.cons (.var 2 "size") .nil))))) (.cons (.expr (.call 247 (.cons (.var 3 "world") .nil))) (.cons (.ret (.cmp .is (.call 313 (.cons (.var 0 "one") (.cons (.var 1 "other") (.cons (.var 2 "size") (.cons (.var 3 "world") .nil))))) (.cst .none))) .nil)))⟩
/-- idle_there -/
def b318 : Fd := ⟨3, 9, (.cons (.expr (.call 314 (.cons (.var 0 "table") (.cons (.var 0 "table") (.cons (.var 1 "size") .nil))))) (.cons (.expr (.call 247 (.cons (.var 2 "world") .nil))) (.cons (.set 3 "found" (.lst .nil)) (.cons (.forS (.tp [(4, "at"), (5, "name")]) (.enum (.glob "NAMES" (.tuple [(.str "order"), (.str "mark"), (.str "same"), (.str "view"), (.str "seen"), (.str "gone")]))) (.cons (.setP [(6, "others"), (7, "told")] (.cons (.comp [("own", 8)] (.nm 8 "own") (.rng (.bin .add (.ix (.glob "MOST" (.tuple [(.int 1), (.int 2), (.int 1), (.int 1), (.int 1), (.int 2)])) (.var 4 "at")) (.cst (.int 1)))) (.yes (.cmp .ne (.var 8 "own") (.ix (.var 0 "table") (.var 4 "at")))) (.call 299 (.cons (.var 0 "table") (.cons (.var 4 "at") (.cons (.var 8 "own") .nil))))) (.cons (.cst (.bool false)) .nil))) (.frz 6 (.cons (.forS (.nm 8 "own") (.seq (.var 6 "others")) (.cons (.set 7 "told" (.bop true (.cons (.var 7 "told") (.cons (.cmp .isnot (.call 313 (.cons (.var 0 "table") (.cons (.var 8 "own") (.cons (.var 1 "size") (.cons (.var 2 "world") .nil))))) (.cst .none)) .nil)))) .nil)) (.cons (.ife (.notE (.var 7 "told")) (.cons (.app 3 "found" (.var 5 "name")) .nil) .nil) .nil))))) (.frz 3 (.cons (.ret (.bi .tuple (.var 3 "found"))) .nil))))))⟩
/-- apart_there -/
def b323 : Fd := ⟨4, 4, (.cons (.expr (.call 314 (.cons (.var 0 "one") (.cons (.var 1 "other") (.cons (.var 2 "size") .nil))))) (.cons (.expr (.call 247 (.cons (.var 3 "world") .nil))) (.cons (.ret (.call 313 (.cons (.var 0 "one") (.cons (.var 1 "other") (.cons (.var 2 "size") (.cons (.var 3 "world") .nil)))))) .nil)))⟩
/-- paged_in -/
def b331 : Fd := ⟨3, 7, (.cons (.ife (.cmp .eq (.ix (.var 2 "reading") (.glob "OVER" (.int 5))) (.cst (.int 1))) (.cons (.ret (.var 2 "reading")) .nil) .nil) (.cons (.set 3 "page" (.call 330 (.cons (.var 0 "table") (.cons (.var 1 "size") (.cons (.var 2 "reading") .nil))))) (.frz 3 (.cons (.set 4 "first" (.ife (.cmp .is (.ix (.var 2 "reading") (.glob "FIRST" (.int 1))) (.cst .none)) (.ix (.var 2 "reading") (.glob "NOW" (.int 0))) (.ix (.var 2 "reading") (.glob "FIRST" (.int 1))))) (.cons (.setP [(5, "got"), (6, "last")] (.cons (.bin .add (.ix (.var 2 "reading") (.glob "GOT" (.int 2))) (.call 107 (.cons (.var 0 "table") (.cons (.var 2 "reading") (.cons (.var 3 "page") .nil))))) (.cons (.ife (.cmp .ne (.var 3 "page") (.tup .nil)) (.ix (.var 3 "page") (.neg (.cst (.int 1)))) (.ix (.var 2 "reading") (.glob "LAST" (.int 4)))) .nil))) (.frz 5 (.cons (.ret (.tup (.cons (.ix (.var 2 "reading") (.glob "NOW" (.int 0))) (.cons (.var 4 "first") (.cons (.var 5 "got") (.cons (.bin .add (.ix (.var 2 "reading") (.glob "SENT" (.int 3))) (.bi .len (.var 3 "page"))) (.cons (.var 6 "last") (.cons (.ife (.cmp .lt (.bi .len (.var 3 "page")) (.var 1 "size")) (.cst (.int 1)) (.cst (.int 0))) .nil)))))))) .nil)))))))⟩
/-- stepped_in -/
def b332 : Fd := ⟨4, 4, (.cons (.ret (.ife (.cmp .eq (.var 3 "step") (.glob "PAGE" (.tuple [(.str "page")]))) (.call 331 (.cons (.var 0 "table") (.cons (.var 1 "size") (.cons (.var 2 "reading") .nil)))) (.call 109 (.cons (.var 2 "reading") (.cons (.var 3 "step") .nil))))) .nil)⟩
/-- ends_in -/
def b335 : Fd := ⟨3, 5, (.cons (.forS (.nm 3 "many") (.rng (.glob "ENDS" (.int 30))) (.cons (.ife (.cmp .eq (.ix (.var 2 "reading") (.glob "OVER" (.int 5))) (.cst (.int 1))) (.cons (.ret (.var 3 "many")) .nil) .nil) (.cons (.set 4 "later" (.call 331 (.cons (.var 0 "table") (.cons (.var 1 "size") (.cons (.var 2 "reading") .nil))))) (.frz 4 (.cons (.ife (.bop false (.cons (.cmp .gt (.ix (.var 0 "table") (.glob "MARK" (.int 1))) (.cst (.int 0))) (.cons (.cmp .eq (.ix (.var 4 "later") (.glob "OVER" (.int 5))) (.cst (.int 0))) (.cons (.cmp .eq (.ix (.var 4 "later") (.glob "LAST" (.int 4))) (.ix (.var 2 "reading") (.glob "LAST" (.int 4)))) .nil)))) (.cons (.ret (.cst .none)) .nil) .nil) (.cons (.set 2 "reading" (.var 4 "later")) .nil)))))) (.cons (.ret (.cst .none)) .nil))⟩
/-- node_behind -/
def b336 : Fd := ⟨5, 12, (.cons (.setT (.tp [(5, "sketch"), (6, "watch")]) (.var 3 "node")) (.cons (.set 7 "later" (.call 332 (.cons (.var 0 "table") (.cons (.var 1 "size") (.cons (.var 5 "sketch") (.cons (.var 4 "step") .nil)))))) (.frz 7 (.cons (.set 8 "new" (.call 246 (.cons (.var 0 "table") (.cons (.var 7 "later") .nil)))) (.frz 8 (.cons (.ife (.cmp .ne (.var 4 "step") (.glob "PAGE" (.tuple [(.str "page")]))) (.cons (.setP [(9, "mind"), (10, "broken")] (.cons (.call 257 (.cons (.var 2 "word") (.cons (.var 6 "watch") (.cons (.ix (.var 7 "later") (.glob "NOW" (.int 0))) .nil)))) (.cons (.cst (.bool false)) .nil))) .nil) (.cons (.set 11 "got" (.sl (.ix (.var 7 "later") (.glob "GOT" (.int 2))) (.yes (.bi .len (.ix (.var 5 "sketch") (.glob "GOT" (.int 2))))) .no)) (.frz 11 (.cons (.set 9 "mind" (.call 258 (.cons (.var 0 "table") (.cons (.var 2 "word") (.cons (.var 6 "watch") (.cons (.ix (.var 5 "sketch") (.glob "NOW" (.int 0))) (.cons (.var 11 "got") .nil))))))) (.frz 9 (.cons (.set 10 "broken" (.call 259 (.cons (.var 0 "table") (.cons (.var 2 "word") (.cons (.var 6 "watch") (.cons (.var 9 "mind") (.cons (.ix (.var 5 "sketch") (.glob "NOW" (.int 0))) (.cons (.var 11 "got") (.cons (.ix (.var 7 "later") (.glob "OVER" (.int 5))) .nil))))))))) .nil)))))) (.cons (.ife (.bop false (.cons (.cmp .eq (.var 2 "word") (.cst (.str "ends"))) (.cons (.cmp .is (.call 335 (.cons (.var 0 "table") (.cons (.var 1 "size") (.cons (.var 8 "new") .nil)))) (.cst .none)) .nil))) (.cons (.set 10 "broken" (.cst (.bool true))) .nil) .nil) (.cons (.ret (.tup (.cons (.tup (.cons (.var 8 "new") (.cons (.var 9 "mind") .nil))) (.cons (.var 10 "broken") .nil)))) .nil))))))))⟩
/-- fits_keys -/
def b337 : Fd := ⟨1, 4, (.cons (.ife (.bop true (.cons (.notE (.call 0 (.cons (.var 0 "value") (.cons (.cst (.int 0)) (.cons (.glob "KEYS_lists" (.int 10)) .nil))))) (.cons (.notE (.bi .all (.comp [("own", 1)] (.nm 1 "own") (.seq (.var 0 "value")) .no (.call 1 (.cons (.var 1 "own") (.cons (.cst (.int 0)) (.cons (.bin .sub (.glob "KEYS_lists" (.int 10)) (.cst (.int 1))) .nil))))))) .nil))) (.cons (.ret (.cst (.bool false))) .nil) .nil) (.cons (.ret (.bi .all (.comp [("one", 2), ("other", 3)] (.tp [(2, "one"), (3, "other")]) (.zip (.var 0 "value") (.sl (.var 0 "value") (.yes (.cst (.int 1))) .no)) .no (.cmp .lt (.var 2 "one") (.var 3 "other"))))) .nil))⟩
/-- fits_sketch -/
def b338 : Fd := ⟨2, 2, (.cons (.ife (.bop true (.cons (.notE (.call 0 (.cons (.var 1 "value") (.cons (.cst (.int 6)) (.cons (.cst (.int 6)) .nil))))) (.cons (.notE (.call 234 (.cons (.ix (.var 1 "value") (.glob "NOW" (.int 0))) .nil))) .nil))) (.cons (.ret (.cst (.bool false))) .nil) .nil) (.cons (.ife (.bop true (.cons (.notE (.bop true (.cons (.cmp .is (.ix (.var 1 "value") (.glob "FIRST" (.int 1))) (.cst .none)) (.cons (.call 234 (.cons (.ix (.var 1 "value") (.glob "FIRST" (.int 1))) .nil)) .nil)))) (.cons (.notE (.bop true (.cons (.cmp .is (.ix (.var 1 "value") (.glob "LAST" (.int 4))) (.cst .none)) (.cons (.call 233 (.cons (.ix (.var 1 "value") (.glob "LAST" (.int 4))) .nil)) .nil)))) .nil))) (.cons (.ret (.cst (.bool false))) .nil) .nil) (.cons (.ife (.bop true (.cons (.notE (.call 234 (.cons (.ix (.var 1 "value") (.glob "GOT" (.int 2))) .nil))) (.cons (.notE (.call 1 (.cons (.ix (.var 1 "value") (.glob "SENT" (.int 3))) (.cons (.cst (.int 0)) (.cons (.glob "FAR" (.int 400)) .nil))))) (.cons (.notE (.call 1 (.cons (.ix (.var 1 "value") (.glob "OVER" (.int 5))) (.cons (.cst (.int 0)) (.cons (.cst (.int 1)) .nil))))) .nil)))) (.cons (.ret (.cst (.bool false))) .nil) .nil) (.cons (.ret (.cmp .eq (.call 246 (.cons (.var 0 "table") (.cons (.var 1 "value") .nil))) (.var 1 "value"))) .nil))))⟩
/-- fits_mind -/
def b339 : Fd := ⟨3, 3, (.cons (.ife (.cmp .eq (.var 1 "word") (.cst (.str "once"))) (.cons (.ret (.call 337 (.cons (.var 2 "value") .nil))) .nil) .nil) (.cons (.ife (.bop true (.cons (.cmp .is (.var 2 "value") (.cst .none)) (.cons (.cmp .in_ (.var 1 "word") (.tup (.cons (.cst (.str "ends")) (.cons (.cst (.str "true")) .nil)))) .nil))) (.cons (.ret (.cmp .is (.var 2 "value") (.cst .none))) .nil) .nil) (.cons (.ife (.cmp .eq (.var 1 "word") (.cst (.str "all"))) (.cons (.ret (.call 234 (.cons (.var 2 "value") .nil))) .nil) .nil) (.cons (.ife (.cmp .eq (.var 1 "word") (.cst (.str "kept"))) (.cons (.ret (.call 337 (.cons (.var 2 "value") .nil))) .nil) .nil) (.cons (.ife (.cmp .eq (.ix (.var 0 "table") (.glob "ORDER" (.int 0))) (.glob "BY_KEY" (.int 0))) (.cons (.ret (.bop false (.cons (.call 0 (.cons (.var 2 "value") (.cons (.cst (.int 1)) (.cons (.cst (.int 1)) .nil)))) (.cons (.call 1 (.cons (.ix (.var 2 "value") (.cst (.int 0))) (.cons (.cst (.int 0)) (.cons (.bin .sub (.glob "KEYS_lists" (.int 10)) (.cst (.int 1))) .nil)))) .nil)))) .nil) .nil) (.cons (.ret (.bop false (.cons (.call 0 (.cons (.var 2 "value") (.cons (.cst (.int 2)) (.cons (.cst (.int 2)) .nil)))) (.cons (.call 1 (.cons (.ix (.var 2 "value") (.cst (.int 0))) (.cons (.cst (.int 0)) (.cons (.bin .sub (.glob "RANKS_lists" (.int 6)) (.cst (.int 1))) .nil)))) (.cons (.call 1 (.cons (.ix (.var 2 "value") (.cst (.int 1))) (.cons (.cst (.int 0)) (.cons (.bin .sub (.glob "KEYS_lists" (.int 10)) (.cst (.int 1))) .nil)))) .nil))))) .nil))))))⟩
/-- fits_node -/
def b340 : Fd := ⟨3, 3, (.cons (.ret (.bop false (.cons (.call 0 (.cons (.var 2 "value") (.cons (.cst (.int 2)) (.cons (.cst (.int 2)) .nil)))) (.cons (.call 338 (.cons (.var 0 "table") (.cons (.ix (.var 2 "value") (.cst (.int 0))) .nil))) (.cons (.call 339 (.cons (.var 0 "table") (.cons (.var 1 "word") (.cons (.ix (.var 2 "value") (.cst (.int 1))) .nil)))) .nil))))) .nil)⟩
/-- need_four -/
def b341 : Fd := ⟨4, 4, (.cons (.expr (.call 263 (.cons (.var 0 "table") (.cons (.var 1 "size") (.cons (.var 2 "world") .nil))))) (.cons (.expr (.call 284 (.cons (.var 3 "word") .nil))) .nil))⟩
/-- is_node -/
def b343 : Fd := ⟨5, 5, (.cons (.expr (.call 341 (.cons (.var 0 "table") (.cons (.var 1 "size") (.cons (.var 2 "world") (.cons (.var 3 "word") .nil)))))) (.cons (.ret (.call 340 (.cons (.var 0 "table") (.cons (.var 3 "word") (.cons (.var 4 "value") .nil))))) .nil))⟩
/-- nodes_behind -/
def b345 : Fd := ⟨5, 9, (.cons (.expr (.call 341 (.cons (.var 0 "table") (.cons (.var 1 "size") (.cons (.var 2 "world") (.cons (.var 3 "word") .nil)))))) (.cons (.ife (.notE (.call 340 (.cons (.var 0 "table") (.cons (.var 3 "word") (.cons (.var 4 "node") .nil))))) (.cons (.raise 2) .nil) .nil) (.cons (.set 5 "rows" (.ife (.cmp .eq (.ix (.ix (.var 4 "node") (.cst (.int 0))) (.glob "OVER" (.int 5))) (.cst (.int 0))) (.comp [("step", 6)] (.nm 6 "step") (.seq (.call 245 (.cons (.var 2 "world") .nil))) .no (.call 336 (.cons (.var 0 "table") (.cons (.var 1 "size") (.cons (.var 3 "word") (.cons (.var 4 "node") (.cons (.var 6 "step") .nil))))))) (.lst .nil))) (.frz 5 (.cons (.ret (.bi .tuple (.comp [("later", 7), ("broken", 8)] (.tp [(7, "later"), (8, "broken")]) (.seq (.var 5 "rows")) .no (.ife (.var 8 "broken") (.cst .none) (.var 7 "later"))))) .nil)))))⟩
/-- _law_is_over -/
def b352 : Fd := ⟨3, 5, (.cons (.set 3 "reading" (.sl (.var 2 "sketch") (.yes (.cst (.int 1))) .no)) (.frz 3 (.cons (.forS (.nm 4 "turn") (.rng (.cst (.int 30))) (.cons (.ife (.cmp .eq (.ix (.var 3 "reading") (.cst (.int 4))) (.cst (.int 1))) (.cons (.ret (.cst (.bool true))) .nil) .nil) (.cons (.set 3 "reading" (.call 118 (.cons (.var 0 "table") (.cons (.var 1 "size") (.cons (.ix (.var 2 "sketch") (.cst (.int 0))) (.cons (.var 3 "reading") .nil)))))) .nil))) (.cons (.ret (.cst (.bool false))) .nil))))⟩
/-- _law_breaks -/
def b354 : Fd := ⟨6, 7, (.cons (.ife (.cmp .eq (.var 1 "word") (.cst (.str "once"))) (.cons (.ret (.cmp .ne (.comp [("row", 6)] (.nm 6 "row") (.seq (.var 4 "new")) (.yes (.cmp .in_ (.ix (.var 6 "row") (.cst (.int 0))) (.var 2 "mind"))) (.var 6 "row")) (.lst .nil))) .nil) .nil) (.cons (.ife (.cmp .eq (.var 1 "word") (.cst (.str "rising"))) (.cons (.ret (.bop false (.cons (.cmp .isnot (.var 2 "mind") (.cst .none)) (.cons (.cmp .ne (.comp [("row", 6)] (.nm 6 "row") (.seq (.var 4 "new")) (.yes (.cmp .lt (.call 78 (.cons (.ix (.var 0 "table") (.cst (.int 0))) (.cons (.var 6 "row") .nil))) (.var 2 "mind"))) (.var 6 "row")) (.lst .nil)) .nil)))) .nil) .nil) (.cons (.ife (.cmp .eq (.var 1 "word") (.cst (.str "true"))) (.cons (.ret (.cmp .ne (.comp [("row", 6)] (.nm 6 "row") (.seq (.var 4 "new")) (.yes (.cmp .notin (.var 6 "row") (.var 3 "now"))) (.var 6 "row")) (.lst .nil))) .nil) .nil) (.cons (.ret (.bop false (.cons (.cmp .in_ (.var 1 "word") (.tup (.cons (.cst (.str "all")) (.cons (.cst (.str "kept")) .nil)))) (.cons (.cmp .eq (.ix (.ix (.var 5 "later") (.cst (.int 0))) (.cst (.int 5))) (.cst (.int 1))) (.cons (.cmp .ne (.ix (.var 5 "later") (.cst (.int 1))) (.tup .nil)) .nil))))) .nil))))⟩
/-- _law_behind -/
def b355 : Fd := ⟨5, 15, (.cons (.setT (.tp [(5, "sketch"), (6, "mind")]) (.var 3 "node")) (.cons (.setP [(7, "now"), (8, "reading"), (9, "broken")] (.cons (.ix (.var 5 "sketch") (.cst (.int 0))) (.cons (.sl (.var 5 "sketch") (.yes (.cst (.int 1))) .no) (.cons (.cst (.bool false)) .nil)))) (.frz 8 (.cons (.ife (.cmp .eq (.var 4 "step") (.tup (.cons (.cst (.str "page")) .nil))) (.cons (.set 10 "paged" (.call 118 (.cons (.var 0 "table") (.cons (.var 1 "size") (.cons (.var 7 "now") (.cons (.var 8 "reading") .nil)))))) (.frz 10 (.cons (.set 11 "new" (.sl (.ix (.var 10 "paged") (.cst (.int 1))) (.yes (.bi .len (.ix (.var 8 "reading") (.cst (.int 1))))) .no)) (.frz 11 (.cons (.set 12 "later" (.tup (.cons (.call 251 (.cons (.var 0 "table") (.cons (.var 7 "now") (.cons (.var 10 "paged") .nil)))) (.cons (.call 353 (.cons (.var 0 "table") (.cons (.var 2 "word") (.cons (.var 6 "mind") (.cons (.var 7 "now") (.cons (.var 11 "new") .nil)))))) .nil)))) (.cons (.set 9 "broken" (.call 354 (.cons (.var 0 "table") (.cons (.var 2 "word") (.cons (.var 6 "mind") (.cons (.var 7 "now") (.cons (.var 11 "new") (.cons (.var 12 "later") .nil)))))))) .nil)))))) (.cons (.set 7 "now" (.call 57 (.cons (.var 7 "now") (.cons (.var 4 "step") .nil)))) (.frz 7 (.cons (.ife (.bop false (.cons (.cmp .eq (.var 2 "word") (.cst (.str "all"))) (.cons (.cmp .isnot (.var 6 "mind") (.cst .none)) .nil))) (.cons (.set 6 "mind" (.bi .tuple (.comp [("row", 13)] (.nm 13 "row") (.seq (.var 6 "mind")) (.yes (.cmp .in_ (.var 13 "row") (.var 7 "now"))) (.var 13 "row")))) .nil) .nil) (.cons (.ife (.bop false (.cons (.cmp .eq (.var 2 "word") (.cst (.str "kept"))) (.cons (.cmp .isnot (.var 6 "mind") (.cst .none)) .nil))) (.cons (.set 6 "mind" (.bi .tuple (.comp [("key", 14)] (.nm 14 "key") (.seq (.var 6 "mind")) (.yes (.cmp .in_ (.var 14 "key") (.comp [("row", 13)] (.nm 13 "row") (.seq (.var 7 "now")) .no (.ix (.var 13 "row") (.cst (.int 0)))))) (.var 14 "key")))) .nil) .nil) (.cons (.set 12 "later" (.tup (.cons (.call 251 (.cons (.var 0 "table") (.cons (.var 7 "now") (.cons (.var 8 "reading") .nil)))) (.cons (.var 6 "mind") .nil)))) .nil)))))) (.cons (.ret (.ife (.bop true (.cons (.var 9 "broken") (.cons (.bop false (.cons (.cmp .eq (.var 2 "word") (.cst (.str "ends"))) (.cons (.notE (.call 352 (.cons (.var 0 "table") (.cons (.var 1 "size") (.cons (.ix (.var 12 "later") (.cst (.int 0))) .nil))))) .nil))) .nil))) (.cst .none) (.var 12 "later"))) .nil)))))⟩
/-- _law_begin -/
def b356 : Fd := ⟨2, 2, (.cons (.ret (.tup (.cons (.call 251 (.cons (.var 0 "table") (.cons (.tup .nil) (.cons (.call 116 .nil) .nil)))) (.cons (.ife (.cmp .eq (.var 1 "word") (.cst (.str "once"))) (.tup .nil) (.cst .none)) .nil)))) .nil)⟩
/-- need_lot -/
def b363 : Fd := ⟨5, 5, (.cons (.expr (.call 341 (.cons (.var 0 "table") (.cons (.var 1 "size") (.cons (.var 2 "world") (.cons (.var 3 "word") .nil)))))) (.cons (.ife (.notE (.call 361 (.cons (.var 0 "table") (.cons (.var 3 "word") (.cons (.var 4 "value") .nil))))) (.cons (.raise 2) .nil) .nil) .nil))⟩
/-- is_paper -/
def b364 : Fd := ⟨5, 5, (.cons (.expr (.call 341 (.cons (.var 0 "table") (.cons (.var 1 "size") (.cons (.var 2 "world") (.cons (.var 3 "word") .nil)))))) (.cons (.ret (.bop false (.cons (.call 361 (.cons (.var 0 "table") (.cons (.var 3 "word") (.cons (.var 4 "value") .nil)))) (.cons (.cmp .is (.call 362 (.cons (.var 0 "table") (.cons (.var 1 "size") (.cons (.var 2 "world") (.cons (.var 3 "word") (.cons (.var 4 "value") .nil)))))) (.cst .none)) .nil)))) .nil))⟩
/-- paper_fault -/
def b365 : Fd := ⟨5, 5, (.cons (.expr (.call 363 (.cons (.var 0 "table") (.cons (.var 1 "size") (.cons (.var 2 "world") (.cons (.var 3 "word") (.cons (.var 4 "lot") .nil))))))) (.cons (.ret (.call 362 (.cons (.var 0 "table") (.cons (.var 1 "size") (.cons (.var 2 "world") (.cons (.var 3 "word") (.cons (.var 4 "lot") .nil))))))) .nil))⟩
/-- paper_of -/
def b373 : Fd := ⟨4, 6, (.cons (.expr (.call 341 (.cons (.var 0 "table") (.cons (.var 1 "size") (.cons (.var 2 "world") (.cons (.var 3 "word") .nil)))))) (.cons (.setT (.tp [(4, "found"), (5, "last")]) (.call 370 (.cons (.var 0 "table") (.cons (.var 1 "size") (.cons (.var 2 "world") (.cons (.var 3 "word") .nil)))))) (.cons (.ret (.ife (.cmp .is (.var 5 "last") (.cst .none)) (.bi .tuple (.var 4 "found")) (.cst .none))) .nil)))⟩
/-- need_paper -/
def b377 : Fd := ⟨5, 5, (.cons (.expr (.call 363 (.cons (.var 0 "table") (.cons (.var 1 "size") (.cons (.var 2 "world") (.cons (.var 3 "word") (.cons (.var 4 "value") .nil))))))) (.cons (.ife (.cmp .isnot (.call 362 (.cons (.var 0 "table") (.cons (.var 1 "size") (.cons (.var 2 "world") (.cons (.var 3 "word") (.cons (.var 4 "value") .nil)))))) (.cst .none)) (.cons (.raise 2) .nil) .nil) .nil))⟩
/-- least_paper -/
def b378 : Fd := ⟨5, 5, (.cons (.expr (.call 377 (.cons (.var 0 "table") (.cons (.var 1 "size") (.cons (.var 2 "world") (.cons (.var 3 "word") (.cons (.var 4 "paper") .nil))))))) (.cons (.ret (.bi .tuple (.call 376 (.cons (.var 0 "table") (.cons (.var 1 "size") (.cons (.var 2 "world") (.cons (.var 3 "word") (.cons (.var 4 "paper") .nil)))))))) .nil))⟩
/-- fits_entry -/
def b387 : Fd := ⟨1, 1, (.cons (.ret (.bop false (.cons (.call 0 (.cons (.var 0 "value") (.cons (.cst (.int 2)) (.cons (.cst (.int 2)) .nil)))) (.cons (.call 1 (.cons (.ix (.var 0 "value") (.cst (.int 0))) (.cons (.cst (.int 0)) (.cons (.glob "STAMP" (.int 9)) .nil)))) (.cons (.call 4 (.cons (.ix (.var 0 "value") (.cst (.int 1))) .nil)) .nil))))) .nil)⟩
/-- fits_log -/
def b388 : Fd := ⟨1, 2, (.cons (.ret (.bop false (.cons (.call 0 (.cons (.var 0 "value") (.cons (.cst (.int 0)) (.cons (.glob "ENTRIES" (.int 20)) .nil)))) (.cons (.bi .all (.comp [("own", 1)] (.nm 1 "own") (.seq (.var 0 "value")) .no (.call 387 (.cons (.var 1 "own") .nil)))) .nil)))) .nil)⟩
/-- list_in -/
def b389 : Fd := ⟨1, 4, (.cons (.set 1 "rows" (.tup .nil)) (.cons (.forS (.tp [(2, "stamp"), (3, "change")]) (.seq (.var 0 "log")) (.cons (.set 1 "rows" (.call 49 (.cons (.var 1 "rows") (.cons (.var 3 "change") .nil)))) .nil)) (.cons (.ret (.var 1 "rows")) .nil)))⟩
/-- lateness_in -/
def b391 : Fd := ⟨1, 5, (.cons (.set 1 "found" (.neg (.cst (.int 1)))) (.cons (.forS (.tp [(2, "at"), (3, "entry")]) (.enum (.var 0 "log")) (.cons (.set 1 "found" (.bi .max (.bin .add (.lst (.cons (.var 1 "found") .nil)) (.comp [("ahead", 4)] (.nm 4 "ahead") (.seq (.sl (.var 0 "log") .no (.yes (.var 2 "at")))) .no (.bin .sub (.ix (.var 4 "ahead") (.cst (.int 0))) (.ix (.var 3 "entry") (.cst (.int 0)))))))) .nil)) (.cons (.ret (.var 1 "found")) .nil)))⟩
/-- need_log -/
def b392 : Fd := ⟨1, 1, (.cons (.ife (.notE (.call 388 (.cons (.var 0 "value") .nil))) (.cons (.raise 10) .nil) .nil) .nil)⟩
/-- is_log -/
def b393 : Fd := ⟨1, 1, (.cons (.ret (.call 388 (.cons (.var 0 "value") .nil))) .nil)⟩
/-- log_list -/
def b394 : Fd := ⟨1, 1, (.cons (.expr (.call 392 (.cons (.var 0 "log") .nil))) (.cons (.ret (.call 389 (.cons (.var 0 "log") .nil))) .nil))⟩
/-- store_of -/
def b395 : Fd := ⟨1, 1, (.cons (.expr (.call 392 (.cons (.var 0 "log") .nil))) (.cons (.ret (.bi .tuple (.call 390 (.cons (.var 0 "log") .nil)))) .nil))⟩
/-- lateness -/
def b396 : Fd := ⟨1, 1, (.cons (.expr (.call 392 (.cons (.var 0 "log") .nil))) (.cons (.ret (.call 391 (.cons (.var 0 "log") .nil))) .nil))⟩
/-- _law_near -/
def b397 : Fd := ⟨1, 2, (.cons (.set 1 "key" (.call 18 (.cons (.var 0 "cup") (.cons (.cst (.int 4)) .nil)))) (.frz 1 (.cons (.ret (.ife (.cmp .eq (.call 18 (.cons (.var 0 "cup") (.cons (.cst (.int 3)) .nil))) (.cst (.int 0))) (.tup (.cons (.cst (.str "drop")) (.cons (.var 1 "key") .nil))) (.tup (.cons (.cst (.str "put")) (.cons (.var 1 "key") (.cons (.call 18 (.cons (.var 0 "cup") (.cons (.cst (.int 3)) .nil))) .nil)))))) .nil)))⟩
/-- _law_log -/
def b398 : Fd := ⟨3, 8, (.cons (.setP [(3, "found"), (4, "high")] (.cons (.lst .nil) (.cons (.neg (.cst (.int 1))) .nil))) (.cons (.forS (.nm 5 "turn") (.rng (.var 1 "many")) (.cons (.set 6 "low" (.mx true (.cst (.int 0)) (.bin .sub (.var 4 "high") (.var 2 "late")))) (.cons (.ife (.cmp .lt (.var 6 "low") (.cst (.int 10))) (.cons (.set 7 "stamp" (.bin .add (.var 6 "low") (.call 18 (.cons (.var 0 "cup") (.cons (.mx false (.bin .sub (.cst (.int 10)) (.var 6 "low")) (.cst (.int 4))) .nil))))) (.frz 7 (.cons (.setP [(3, "found"), (4, "high")] (.cons (.bin .add (.var 3 "found") (.lst (.cons (.tup (.cons (.var 7 "stamp") (.cons (.call 397 (.cons (.var 0 "cup") .nil)) .nil))) .nil))) (.cons (.mx true (.var 4 "high") (.var 7 "stamp")) .nil))) .nil))) .nil) .nil))) (.cons (.ret (.bi .tuple (.var 3 "found"))) .nil)))⟩
/-- _law_store -/
def b399 : Fd := ⟨1, 7, (.cons (.set 1 "found" (.lst .nil)) (.cons (.forS (.nm 2 "key") (.rng (.cst (.int 10))) (.cons (.set 3 "own" (.comp [("entry", 4)] (.nm 4 "entry") (.seq (.var 0 "log")) (.yes (.cmp .eq (.ix (.ix (.var 4 "entry") (.cst (.int 1))) (.cst (.int 1))) (.var 2 "key"))) (.var 4 "entry"))) (.frz 3 (.cons (.ife (.cmp .ne (.var 3 "own") (.lst .nil)) (.cons (.setT (.tp [(5, "stamp"), (6, "change")]) (.ix (.var 3 "own") (.neg (.cst (.int 1))))) (.cons (.app 1 "found" (.tup (.cons (.var 2 "key") (.cons (.ife (.cmp .eq (.ix (.var 6 "change") (.cst (.int 0))) (.cst (.str "put"))) (.ix (.var 6 "change") (.cst (.int 2))) (.cst .none)) (.cons (.var 5 "stamp") .nil))))) .nil)) .nil) .nil)))) (.cons (.ret (.var 1 "found")) .nil)))⟩
/-- fits_feed -/
def b402 : Fd := ⟨1, 2, (.cons (.ife (.bop true (.cons (.notE (.call 0 (.cons (.var 0 "value") (.cons (.cst (.int 3)) (.cons (.cst (.int 3)) .nil))))) (.cons (.notE (.bi .all (.comp [("own", 1)] (.nm 1 "own") (.seq (.sl (.var 0 "value") .no (.yes (.cst (.int 2))))) .no (.call 1 (.cons (.var 1 "own") (.cons (.cst (.int 0)) (.cons (.cst (.int 1)) .nil))))))) .nil))) (.cons (.ret (.cst (.bool false))) .nil) .nil) (.cons (.ret (.call 1 (.cons (.ix (.var 0 "value") (.cst (.int 2))) (.cons (.cst (.int 0)) (.cons (.glob "BACK" (.int 3)) .nil))))) .nil))⟩
/-- items_in -/
def b403 : Fd := ⟨3, 8, (.cons (.setT (.tp [(3, "same"), (4, "tombs"), (5, "back")]) (.var 0 "feed")) (.cons (.set 6 "near" (.comp [("own", 7)] (.nm 7 "own") (.seq (.call 390 (.cons (.var 1 "log") .nil))) (.yes (.bop true (.cons (.cmp .gt (.bin .add (.ix (.var 7 "own") (.cst (.int 2))) (.var 5 "back")) (.var 2 "stamp")) (.cons (.bop false (.cons (.cmp .eq (.var 3 "same") (.cst (.int 1))) (.cons (.cmp .eq (.bin .add (.ix (.var 7 "own") (.cst (.int 2))) (.var 5 "back")) (.var 2 "stamp")) .nil))) .nil)))) (.var 7 "own"))) (.frz 6 (.cons (.ret (.sortK "own" [] (.tup (.cons (.ix (.var 0 "own") (.cst (.int 2))) (.cons (.ix (.var 0 "own") (.cst (.int 0))) .nil))) (.comp [("own", 7)] (.nm 7 "own") (.seq (.var 6 "near")) (.yes (.bop true (.cons (.cmp .eq (.var 4 "tombs") (.cst (.int 1))) (.cons (.cmp .isnot (.ix (.var 7 "own") (.cst (.int 1))) (.cst .none)) .nil)))) (.var 7 "own")))) .nil))))⟩
/-- asked_in -/
def b404 : Fd := ⟨4, 7, (.cons (.forS (.tp [(4, "key"), (5, "rank"), (6, "own")]) (.seq (.call 403 (.cons (.var 0 "feed") (.cons (.var 1 "log") (.cons (.var 3 "stamp") .nil))))) (.cons (.set 2 "copy" (.call 49 (.cons (.var 2 "copy") (.cons (.ife (.cmp .is (.var 5 "rank") (.cst .none)) (.tup (.cons (.cst (.str "drop")) (.cons (.var 4 "key") .nil))) (.tup (.cons (.cst (.str "put")) (.cons (.var 4 "key") (.cons (.var 5 "rank") .nil))))) .nil)))) (.cons (.set 3 "stamp" (.mx true (.var 3 "stamp") (.var 6 "own"))) .nil))) (.cons (.ret (.tup (.cons (.var 2 "copy") (.cons (.var 3 "stamp") .nil)))) .nil))⟩
/-- need_feed -/
def b405 : Fd := ⟨1, 1, (.cons (.ife (.notE (.call 402 (.cons (.var 0 "value") .nil))) (.cons (.raise 3) .nil) .nil) .nil)⟩
/-- is_feed -/
def b406 : Fd := ⟨1, 1, (.cons (.ret (.call 402 (.cons (.var 0 "value") .nil))) .nil)⟩
/-- items_told -/
def b407 : Fd := ⟨3, 3, (.cons (.expr (.call 405 (.cons (.var 0 "feed") .nil))) (.cons (.expr (.call 392 (.cons (.var 1 "log") .nil))) (.cons (.ife (.notE (.call 1 (.cons (.var 2 "stamp") (.cons (.neg (.cst (.int 1))) (.cons (.glob "STAMP" (.int 9)) .nil))))) (.cons (.raise 4) .nil) .nil) (.cons (.ret (.bi .tuple (.call 403 (.cons (.var 0 "feed") (.cons (.var 1 "log") (.cons (.var 2 "stamp") .nil)))))) .nil))))⟩
/-- asked -/
def b408 : Fd := ⟨4, 4, (.cons (.expr (.call 405 (.cons (.var 0 "feed") .nil))) (.cons (.expr (.call 392 (.cons (.var 1 "log") .nil))) (.cons (.expr (.call 5 (.cons (.var 2 "copy") .nil))) (.cons (.ife (.notE (.call 1 (.cons (.var 3 "stamp") (.cons (.neg (.cst (.int 1))) (.cons (.glob "STAMP" (.int 9)) .nil))))) (.cons (.raise 4) .nil) .nil) (.cons (.ret (.call 404 (.cons (.var 0 "feed") (.cons (.var 1 "log") (.cons (.var 2 "copy") (.cons (.var 3 "stamp") .nil)))))) .nil)))))⟩
/-- _law_told -/
def b409 : Fd := ⟨3, 11, (.cons (.setT (.tp [(3, "same"), (4, "tombs"), (5, "back")]) (.var 0 "feed")) (.cons (.set 6 "least" (.ife (.cmp .eq (.var 3 "same") (.cst (.int 1))) (.bin .sub (.var 2 "stamp") (.var 5 "back")) (.bin .add (.bin .sub (.var 2 "stamp") (.var 5 "back")) (.cst (.int 1))))) (.cons (.set 7 "rows" (.comp [("key", 8), ("rank", 9), ("own", 10)] (.tp [(8, "key"), (9, "rank"), (10, "own")]) (.seq (.call 399 (.cons (.var 1 "log") .nil))) (.yes (.bop false (.cons (.cmp .ge (.var 10 "own") (.var 6 "least")) (.cons (.bop true (.cons (.cmp .isnot (.var 9 "rank") (.cst .none)) (.cons (.cmp .eq (.var 4 "tombs") (.cst (.int 1))) .nil))) .nil)))) (.tup (.cons (.var 10 "own") (.cons (.var 8 "key") (.cons (.var 9 "rank") .nil)))))) (.frz 7 (.cons (.ret (.comp [("own", 10), ("key", 8), ("rank", 9)] (.tp [(10, "own"), (8, "key"), (9, "rank")]) (.seq (.sortK "row" [] (.sl (.var 0 "row") .no (.yes (.cst (.int 2)))) (.var 7 "rows"))) .no (.tup (.cons (.var 8 "key") (.cons (.var 9 "rank") (.cons (.var 10 "own") .nil)))))) .nil)))))⟩
/-- _law_feed -/
def b411 : Fd := ⟨1, 1, (.cons (.ret (.tup (.cons (.call 18 (.cons (.var 0 "cup") (.cons (.cst (.int 2)) .nil))) (.cons (.call 18 (.cons (.var 0 "cup") (.cons (.cst (.int 2)) .nil))) (.cons (.call 18 (.cons (.var 0 "cup") (.cons (.cst (.int 4)) .nil))) .nil))))) .nil)⟩
/-- entries_in -/
def b413 : Fd := ⟨1, 2, (.cons (.ret (.bi .tuple (.comp [("own", 1)] (.nm 1 "own") (.seq (.var 0 "following")) (.yes (.cmp .ne (.var 1 "own") (.glob "ASK" (.tuple [(.str "ask")])))) (.var 1 "own")))) .nil)⟩
/-- fits_following -/
def b414 : Fd := ⟨1, 2, (.cons (.ife (.bop true (.cons (.notE (.call 0 (.cons (.var 0 "value") (.cons (.cst (.int 0)) (.cons (.glob "FOLLOWING" (.int 30)) .nil))))) (.cons (.notE (.bi .all (.comp [("own", 1)] (.nm 1 "own") (.seq (.var 0 "value")) .no (.bop true (.cons (.cmp .eq (.var 1 "own") (.glob "ASK" (.tuple [(.str "ask")]))) (.cons (.call 387 (.cons (.var 1 "own") .nil)) .nil)))))) .nil))) (.cons (.ret (.cst (.bool false))) .nil) .nil) (.cons (.ret (.cmp .le (.bi .len (.call 413 (.cons (.var 0 "value") .nil))) (.glob "ENTRIES" (.int 20)))) .nil))⟩
/-- asks_in -/
def b415 : Fd := ⟨2, 8, (.cons (.setP [(2, "found"), (3, "log"), (4, "copy"), (5, "stamp")] (.cons (.lst .nil) (.cons (.tup .nil) (.cons (.tup .nil) (.cons (.neg (.cst (.int 1))) .nil))))) (.cons (.forS (.nm 6 "step") (.seq (.var 1 "following")) (.cons (.ife (.cmp .eq (.var 6 "step") (.glob "ASK" (.tuple [(.str "ask")]))) (.cons (.set 7 "items" (.call 403 (.cons (.var 0 "feed") (.cons (.var 3 "log") (.cons (.var 5 "stamp") .nil))))) (.frz 7 (.cons (.setT (.tp [(4, "copy"), (5, "stamp")]) (.call 404 (.cons (.var 0 "feed") (.cons (.var 3 "log") (.cons (.var 4 "copy") (.cons (.var 5 "stamp") .nil)))))) (.cons (.app 2 "found" (.tup (.cons (.var 3 "log") (.cons (.var 7 "items") (.cons (.var 4 "copy") (.cons (.var 5 "stamp") .nil)))))) .nil)))) (.cons (.set 3 "log" (.bin .add (.var 3 "log") (.tup (.cons (.var 6 "step") .nil)))) .nil)) .nil)) (.cons (.ret (.var 2 "found")) .nil)))⟩
/-- repeats_in -/
def b416 : Fd := ⟨1, 4, (.cons (.set 1 "spots" (.comp [("at", 2), ("own", 3)] (.tp [(2, "at"), (3, "own")]) (.enum (.var 0 "following")) (.yes (.cmp .eq (.var 3 "own") (.glob "ASK" (.tuple [(.str "ask")])))) (.var 2 "at"))) (.frz 1 (.cons (.ret (.comp [("at", 2)] (.nm 2 "at") (.seq (.var 1 "spots")) .no (.bop false (.cons (.cmp .gt (.var 2 "at") (.cst (.int 0))) (.cons (.cmp .eq (.ix (.var 0 "following") (.bin .sub (.var 2 "at") (.cst (.int 1)))) (.glob "ASK" (.tuple [(.str "ask")]))) .nil))))) .nil)))⟩
/-- says_in -/
def b417 : Fd := ⟨3, 10, (.cons (.set 3 "rows" (.call 415 (.cons (.var 0 "feed") (.cons (.var 1 "following") .nil)))) (.frz 3 (.cons (.ife (.cmp .eq (.var 2 "word") (.cst (.str "alike"))) (.cons (.ret (.bi .all (.comp [("log", 4), ("items", 5), ("copy", 6), ("stamp", 7)] (.tp [(4, "log"), (5, "items"), (6, "copy"), (7, "stamp")]) (.seq (.var 3 "rows")) .no (.cmp .eq (.var 6 "copy") (.call 389 (.cons (.var 4 "log") .nil)))))) .nil) .nil) (.cons (.ife (.cmp .eq (.var 2 "word") (.cst (.str "has"))) (.cons (.ret (.bi .all (.comp [("log", 4), ("items", 5), ("copy", 6), ("stamp", 7)] (.tp [(4, "log"), (5, "items"), (6, "copy"), (7, "stamp")]) (.seq (.var 3 "rows")) .no (.bi .all (.comp [("row", 8)] (.nm 8 "row") (.seq (.call 389 (.cons (.var 4 "log") .nil))) .no (.cmp .in_ (.var 8 "row") (.var 6 "copy"))))))) .nil) .nil) (.cons (.ret (.bi .all (.comp [("again", 9), ("row", 8)] (.tp [(9, "again"), (8, "row")]) (.zip (.call 416 (.cons (.var 1 "following") .nil)) (.var 3 "rows")) .no (.bop true (.cons (.notE (.var 9 "again")) (.cons (.cmp .eq (.ix (.var 8 "row") (.cst (.int 1))) (.lst .nil)) .nil)))))) .nil)))))⟩
/-- need_following -/
def b418 : Fd := ⟨1, 1, (.cons (.ife (.notE (.call 414 (.cons (.var 0 "value") .nil))) (.cons (.raise 10) .nil) .nil) .nil)⟩
/-- is_following -/
def b419 : Fd := ⟨1, 1, (.cons (.ret (.call 414 (.cons (.var 0 "value") .nil))) .nil)⟩
/-- copies_along -/
def b420 : Fd := ⟨2, 3, (.cons (.expr (.call 405 (.cons (.var 0 "feed") .nil))) (.cons (.expr (.call 418 (.cons (.var 1 "following") .nil))) (.cons (.ret (.bi .tuple (.comp [("row", 2)] (.nm 2 "row") (.seq (.call 415 (.cons (.var 0 "feed") (.cons (.var 1 "following") .nil)))) .no (.sl (.var 2 "row") (.yes (.cst (.int 2))) .no)))) .nil)))⟩
/-- items_again -/
def b421 : Fd := ⟨2, 9, (.cons (.expr (.call 405 (.cons (.var 0 "feed") .nil))) (.cons (.expr (.call 418 (.cons (.var 1 "following") .nil))) (.cons (.setP [(2, "met"), (3, "many")] (.cons (.lst .nil) (.cons (.cst (.int 0)) .nil))) (.cons (.forS (.tp [(4, "log"), (5, "items"), (6, "copy"), (7, "stamp")]) (.seq (.call 415 (.cons (.var 0 "feed") (.cons (.var 1 "following") .nil)))) (.cons (.set 3 "many" (.bin .add (.var 3 "many") (.bi .len (.comp [("own", 8)] (.nm 8 "own") (.seq (.var 5 "items")) (.yes (.cmp .in_ (.var 8 "own") (.var 2 "met"))) (.var 8 "own"))))) (.cons (.set 2 "met" (.bin .add (.var 2 "met") (.var 5 "items"))) .nil))) (.cons (.ret (.var 3 "many")) .nil)))))⟩
/-- says_of -/
def b422 : Fd := ⟨2, 3, (.cons (.expr (.call 405 (.cons (.var 0 "feed") .nil))) (.cons (.expr (.call 418 (.cons (.var 1 "following") .nil))) (.cons (.ret (.bi .tuple (.comp [("word", 2)] (.nm 2 "word") (.seq (.glob "SAYS" (.tuple [(.str "alike"), (.str "has"), (.str "quiet")]))) (.yes (.call 417 (.cons (.var 0 "feed") (.cons (.var 1 "following") (.cons (.var 2 "word") .nil))))) (.var 2 "word")))) .nil)))⟩
/-- _law_follow -/
def b423 : Fd := ⟨2, 4, (.cons (.set 2 "found" (.tup .nil)) (.cons (.forS (.nm 3 "entry") (.seq (.var 1 "log")) (.cons (.set 2 "found" (.bin .add (.bin .add (.var 2 "found") (.tup (.cons (.var 3 "entry") .nil))) (.bin .mul (.tup (.cons (.tup (.cons (.cst (.str "ask")) .nil)) .nil)) (.call 19 (.cons (.var 0 "cup") (.cons (.lst (.cons (.cst (.int 0)) (.cons (.cst (.int 0)) (.cons (.cst (.int 1)) (.cons (.cst (.int 1)) (.cons (.cst (.int 2)) .nil)))))) .nil)))))) .nil)) (.cons (.ret (.bin .add (.sl (.var 2 "found") .no (.yes (.cst (.int 28)))) (.bin .mul (.tup (.cons (.tup (.cons (.cst (.str "ask")) .nil)) .nil)) (.bin .add (.cst (.int 1)) (.call 18 (.cons (.var 0 "cup") (.cons (.cst (.int 2)) .nil))))))) .nil)))⟩
/-- covers -/
def b427 : Fd := ⟨2, 5, (.cons (.setT (.tp [(2, "same"), (3, "tombs"), (4, "back")]) (.var 0 "feed")) (.cons (.ret (.ife (.cmp .eq (.var 2 "same") (.cst (.int 1))) (.cmp .ge (.var 4 "back") (.var 1 "late")) (.cmp .gt (.var 4 "back") (.var 1 "late")))) .nil))⟩
/-- always_in -/
def b428 : Fd := ⟨3, 3, (.cons (.ife (.cmp .eq (.var 2 "word") (.cst (.str "quiet"))) (.cons (.ret (.bop false (.cons (.cmp .eq (.ix (.var 0 "feed") (.cst (.int 0))) (.cst (.int 0))) (.cons (.cmp .eq (.ix (.var 0 "feed") (.cst (.int 2))) (.cst (.int 0))) .nil)))) .nil) .nil) (.cons (.ret (.bop false (.cons (.call 427 (.cons (.var 0 "feed") (.cons (.var 1 "late") .nil))) (.cons (.bop true (.cons (.cmp .eq (.var 2 "word") (.cst (.str "has"))) (.cons (.cmp .eq (.ix (.var 0 "feed") (.cst (.int 1))) (.cst (.int 1))) .nil))) .nil)))) .nil))⟩
/-- breach_in -/
def b429 : Fd := ⟨3, 3, (.cons (.ife (.cmp .eq (.var 2 "word") (.cst (.str "quiet"))) (.cons (.ret (.tup (.cons (.tup (.cons (.cst (.int 0)) (.cons (.tup (.cons (.cst (.str "put")) (.cons (.cst (.int 0)) (.cons (.cst (.int 0)) .nil)))) .nil))) (.cons (.glob "ASK" (.tuple [(.str "ask")])) (.cons (.glob "ASK" (.tuple [(.str "ask")])) .nil))))) .nil) .nil) (.cons (.ife (.notE (.call 427 (.cons (.var 0 "feed") (.cons (.var 1 "late") .nil)))) (.cons (.ret (.tup (.cons (.tup (.cons (.glob "STAMP" (.int 9)) (.cons (.tup (.cons (.cst (.str "put")) (.cons (.cst (.int 0)) (.cons (.cst (.int 0)) .nil)))) .nil))) (.cons (.glob "ASK" (.tuple [(.str "ask")])) (.cons (.tup (.cons (.bin .sub (.glob "STAMP" (.int 9)) (.var 1 "late")) (.cons (.tup (.cons (.cst (.str "put")) (.cons (.cst (.int 1)) (.cons (.cst (.int 0)) .nil)))) .nil))) (.cons (.glob "ASK" (.tuple [(.str "ask")])) .nil)))))) .nil) .nil) (.cons (.ret (.tup (.cons (.tup (.cons (.cst (.int 0)) (.cons (.tup (.cons (.cst (.str "put")) (.cons (.cst (.int 0)) (.cons (.cst (.int 0)) .nil)))) .nil))) (.cons (.glob "ASK" (.tuple [(.str "ask")])) (.cons (.tup (.cons (.cst (.int 1)) (.cons (.tup (.cons (.cst (.str "drop")) (.cons (.cst (.int 0)) .nil))) .nil))) (.cons (.glob "ASK" (.tuple [(.str "ask")])) .nil)))))) .nil)))⟩
/-- all_feeds -/
def b430 : Fd := ⟨0, 4, (.cons (.set 0 "found" (.lst .nil)) (.cons (.forS (.nm 1 "same") (.seq (.tup (.cons (.cst (.int 0)) (.cons (.cst (.int 1)) .nil)))) (.cons (.forS (.nm 2 "tombs") (.seq (.tup (.cons (.cst (.int 0)) (.cons (.cst (.int 1)) .nil)))) (.cons (.aug 0 "found" false (.comp [("back", 3)] (.nm 3 "back") (.rng (.bin .add (.glob "BACK" (.int 3)) (.cst (.int 1)))) .no (.tup (.cons (.var 1 "same") (.cons (.var 2 "tombs") (.cons (.var 3 "back") .nil)))))) .nil)) .nil)) (.cons (.ret (.var 0 "found")) .nil)))⟩
/-- need_late -/
def b431 : Fd := ⟨1, 1, (.cons (.ife (.notE (.call 1 (.cons (.var 0 "value") (.cons (.neg (.cst (.int 1))) (.cons (.glob "STAMP" (.int 9)) .nil))))) (.cons (.raise 4) .nil) .nil) .nil)⟩
/-- need_say -/
def b432 : Fd := ⟨1, 1, (.cons (.ife (.bop true (.cons (.notE (.bi (.isi .str) (.var 0 "value"))) (.cons (.cmp .notin (.var 0 "value") (.glob "SAYS" (.tuple [(.str "alike"), (.str "has"), (.str "quiet")]))) .nil))) (.cons (.raise 3) .nil) .nil) .nil)⟩
/-- says_always -/
def b433 : Fd := ⟨2, 3, (.cons (.expr (.call 405 (.cons (.var 0 "feed") .nil))) (.cons (.expr (.call 431 (.cons (.var 1 "late") .nil))) (.cons (.ret (.bi .tuple (.comp [("word", 2)] (.nm 2 "word") (.seq (.glob "SAYS" (.tuple [(.str "alike"), (.str "has"), (.str "quiet")]))) (.yes (.call 428 (.cons (.var 0 "feed") (.cons (.var 1 "late") (.cons (.var 2 "word") .nil))))) (.var 2 "word")))) .nil)))⟩
/-- feed_breach -/
def b434 : Fd := ⟨3, 3, (.cons (.expr (.call 405 (.cons (.var 0 "feed") .nil))) (.cons (.expr (.call 431 (.cons (.var 1 "late") .nil))) (.cons (.expr (.call 432 (.cons (.var 2 "word") .nil))) (.cons (.ret (.ife (.notE (.call 428 (.cons (.var 0 "feed") (.cons (.var 1 "late") (.cons (.var 2 "word") .nil))))) (.call 429 (.cons (.var 0 "feed") (.cons (.var 1 "late") (.cons (.var 2 "word") .nil)))) (.cst .none))) .nil))))⟩
/-- is_feed_breach -/
def b435 : Fd := ⟨4, 4, (.cons (.expr (.call 405 (.cons (.var 0 "feed") .nil))) (.cons (.expr (.call 431 (.cons (.var 1 "late") .nil))) (.cons (.expr (.call 432 (.cons (.var 2 "word") .nil))) (.cons (.ife (.bop true (.cons (.notE (.call 414 (.cons (.var 3 "value") .nil))) (.cons (.cmp .gt (.call 391 (.cons (.call 413 (.cons (.var 3 "value") .nil)) .nil)) (.var 1 "late")) .nil))) (.cons (.ret (.cst (.bool false))) .nil) .nil) (.cons (.ret (.notE (.call 417 (.cons (.var 0 "feed") (.cons (.var 3 "value") (.cons (.var 2 "word") .nil)))))) .nil)))))⟩
/-- least_back -/
def b436 : Fd := ⟨2, 4, (.cons (.ife (.notE (.call 1 (.cons (.var 0 "same") (.cons (.cst (.int 0)) (.cons (.cst (.int 1)) .nil))))) (.cons (.raise 4) .nil) .nil) (.cons (.expr (.call 431 (.cons (.var 1 "late") .nil))) (.cons (.set 2 "some" (.comp [("back", 3)] (.nm 3 "back") (.rng (.bin .add (.glob "BACK" (.int 3)) (.cst (.int 1)))) (.yes (.call 427 (.cons (.tup (.cons (.var 0 "same") (.cons (.cst (.int 1)) (.cons (.var 3 "back") .nil)))) (.cons (.var 1 "late") .nil)))) (.var 3 "back"))) (.frz 2 (.cons (.ret (.ife (.cmp .ne (.var 2 "some") (.lst .nil)) (.ix (.var 2 "some") (.cst (.int 0))) (.cst .none))) .nil)))))⟩
/-- feeds_with -/
def b437 : Fd := ⟨2, 4, (.cons (.expr (.call 431 (.cons (.var 0 "late") .nil))) (.cons (.forS (.nm 2 "word") (.seq (.ife (.bi (.isi .tuple) (.var 1 "words")) (.var 1 "words") (.tup (.cons (.cst .none) .nil)))) (.cons (.expr (.call 432 (.cons (.var 2 "word") .nil))) .nil)) (.cons (.ret (.bi .tuple (.comp [("feed", 3)] (.nm 3 "feed") (.seq (.call 430 .nil)) (.yes (.bi .all (.comp [("word", 2)] (.nm 2 "word") (.seq (.var 1 "words")) .no (.call 428 (.cons (.var 3 "feed") (.cons (.var 0 "late") (.cons (.var 2 "word") .nil))))))) (.var 3 "feed")))) .nil)))⟩
/-- end_in -/
def b443 : Fd := ⟨5, 9, (.cons (.setP [(5, "due"), (6, "found")] (.cons (.call 80 (.cons (.var 0 "order") (.cons (.var 1 "mark") (.cons (.var 3 "row") .nil)))) (.cons (.cst (.int 0)) .nil))) (.frz 5 (.cons (.forS (.nm 7 "own") (.seq (.var 4 "rows")) (.cons (.set 8 "there" (.call 80 (.cons (.var 0 "order") (.cons (.var 1 "mark") (.cons (.var 7 "own") .nil))))) (.frz 8 (.cons (.ife (.bop true (.cons (.cmp .lt (.var 8 "there") (.var 5 "due")) (.cons (.bop false (.cons (.cmp .eq (.var 8 "there") (.var 5 "due")) (.cons (.cmp .eq (.var 2 "same") (.cst (.int 1))) .nil))) .nil))) (.cons (.aug 6 "found" false (.cst (.int 1))) .nil) .nil) .nil)))) (.cons (.ret (.var 6 "found")) .nil))))⟩
/-- ahead_in -/
def b444 : Fd := ⟨4, 4, (.cons (.ret (.sl (.call 71 (.cons (.var 0 "order") (.cons (.var 2 "rows") .nil))) (.yes (.mx true (.cst (.int 0)) (.bin .sub (.var 3 "end") (.var 1 "size")))) (.yes (.var 3 "end")))) .nil)⟩
/-- turned -/
def b445 : Fd := ⟨3, 3, (.cons (.ret (.tup (.cons (.bin .add (.ix (.var 0 "side") (.glob "GOT" (.int 0))) (.var 1 "page")) (.cons (.ife (.cmp .ne (.var 1 "page") (.tup .nil)) (.ix (.var 1 "page") (.neg (.cst (.int 1)))) (.ix (.var 0 "side") (.glob "LAST" (.int 1)))) (.cons (.ife (.cmp .lt (.bi .len (.var 1 "page")) (.var 2 "size")) (.cst (.int 1)) (.cst (.int 0))) .nil))))) .nil)⟩
/-- backward_in -/
def b446 : Fd := ⟨4, 5, (.cons (.set 4 "end" (.ife (.cmp .isnot (.ix (.var 3 "side") (.glob "LAST" (.int 1))) (.cst .none)) (.call 443 (.cons (.var 0 "order") (.cons (.cst (.int 2)) (.cons (.cst (.int 0)) (.cons (.ix (.var 3 "side") (.glob "LAST" (.int 1))) (.cons (.var 2 "rows") .nil)))))) (.bi .len (.var 2 "rows")))) (.frz 4 (.cons (.ret (.call 445 (.cons (.var 3 "side") (.cons (.rev (.call 444 (.cons (.var 0 "order") (.cons (.var 1 "size") (.cons (.var 2 "rows") (.cons (.var 4 "end") .nil)))))) (.cons (.var 1 "size") .nil))))) .nil)))⟩
/-- end_of_page -/
def b447 : Fd := ⟨5, 5, (.cons (.expr (.call 72 (.cons (.var 0 "order") .nil))) (.cons (.ife (.bop true (.cons (.notE (.call 1 (.cons (.var 1 "mark") (.cons (.cst (.int 1)) (.cons (.cst (.int 2)) .nil))))) (.cons (.notE (.call 1 (.cons (.var 2 "same") (.cons (.cst (.int 0)) (.cons (.cst (.int 1)) .nil))))) .nil))) (.cons (.raise 4) .nil) .nil) (.cons (.expr (.call 73 (.cons (.var 3 "row") .nil))) (.cons (.expr (.call 5 (.cons (.var 4 "rows") .nil))) (.cons (.ret (.call 443 (.cons (.var 0 "order") (.cons (.var 1 "mark") (.cons (.var 2 "same") (.cons (.var 3 "row") (.cons (.var 4 "rows") .nil))))))) .nil)))))⟩
/-- page_ahead -/
def b448 : Fd := ⟨4, 4, (.cons (.expr (.call 72 (.cons (.var 0 "order") .nil))) (.cons (.expr (.call 5 (.cons (.var 1 "rows") .nil))) (.cons (.expr (.call 73 (.cons (.var 2 "row") .nil))) (.cons (.expr (.call 85 (.cons (.var 3 "size") .nil))) (.cons (.ret (.call 444 (.cons (.var 0 "order") (.cons (.var 3 "size") (.cons (.var 1 "rows") (.cons (.call 443 (.cons (.var 0 "order") (.cons (.cst (.int 2)) (.cons (.cst (.int 0)) (.cons (.var 2 "row") (.cons (.var 1 "rows") .nil)))))) .nil)))))) .nil)))))⟩
/-- back_pages -/
def b449 : Fd := ⟨3, 6, (.cons (.expr (.call 72 (.cons (.var 0 "order") .nil))) (.cons (.expr (.call 5 (.cons (.var 1 "rows") .nil))) (.cons (.expr (.call 85 (.cons (.var 2 "size") .nil))) (.cons (.setP [(3, "side"), (4, "found")] (.cons (.glob "NONE" (.tuple [(.tuple []), .none, (.int 0)])) (.cons (.lst .nil) .nil))) (.cons (.whl fuel (.cmp .eq (.ix (.var 3 "side") (.glob "OVER" (.int 2))) (.cst (.int 0))) (.cons (.set 5 "later" (.call 446 (.cons (.var 0 "order") (.cons (.var 2 "size") (.cons (.var 1 "rows") (.cons (.var 3 "side") .nil)))))) (.frz 5 (.cons (.app 4 "found" (.sl (.ix (.var 5 "later") (.glob "GOT" (.int 0))) (.yes (.bi .len (.ix (.var 3 "side") (.glob "GOT" (.int 0))))) .no)) (.cons (.set 3 "side" (.var 5 "later")) .nil))))) (.frz 4 (.cons (.ret (.bi .tuple (.var 4 "found"))) .nil)))))))⟩
/-- forward_in -/
def b454 : Fd := ⟨4, 5, (.cons (.set 4 "at" (.ife (.cmp .isnot (.ix (.var 3 "side") (.glob "LAST" (.int 1))) (.cst .none)) (.call 81 (.cons (.var 0 "order") (.cons (.cst (.int 2)) (.cons (.cst (.int 0)) (.cons (.ix (.var 3 "side") (.glob "LAST" (.int 1))) (.cons (.var 2 "rows") .nil)))))) (.cst (.int 0)))) (.frz 4 (.cons (.ret (.call 445 (.cons (.var 3 "side") (.cons (.sl (.call 71 (.cons (.var 0 "order") (.cons (.var 2 "rows") .nil))) (.yes (.var 4 "at")) (.yes (.bin .add (.var 4 "at") (.var 1 "size")))) (.cons (.var 1 "size") .nil))))) .nil)))⟩
/-- pair_behind -/
def b455 : Fd := ⟨4, 7, (.cons (.setT (.tp [(4, "now"), (5, "one"), (6, "other")]) (.var 2 "pair")) (.cons (.ife (.cmp .eq (.var 3 "step") (.glob "PAGE" (.tuple [(.str "page")]))) (.cons (.ret (.tup (.cons (.var 4 "now") (.cons (.ife (.cmp .eq (.ix (.var 5 "one") (.glob "OVER" (.int 2))) (.cst (.int 0))) (.call 454 (.cons (.var 0 "order") (.cons (.var 1 "size") (.cons (.var 4 "now") (.cons (.var 5 "one") .nil))))) (.var 5 "one")) (.cons (.var 6 "other") .nil))))) .nil) .nil) (.cons (.ife (.cmp .eq (.var 3 "step") (.glob "BACK" (.tuple [(.str "back")]))) (.cons (.ret (.tup (.cons (.var 4 "now") (.cons (.var 5 "one") (.cons (.ife (.cmp .eq (.ix (.var 6 "other") (.glob "OVER" (.int 2))) (.cst (.int 0))) (.call 446 (.cons (.var 0 "order") (.cons (.var 1 "size") (.cons (.var 4 "now") (.cons (.var 6 "other") .nil))))) (.var 6 "other")) .nil))))) .nil) .nil) (.cons (.ret (.tup (.cons (.call 49 (.cons (.var 4 "now") (.cons (.var 3 "step") .nil))) (.cons (.var 5 "one") (.cons (.var 6 "other") .nil))))) .nil))))⟩
/-- pair_in -/
def b456 : Fd := ⟨4, 8, (.cons (.setP [(4, "pair"), (5, "met"), (6, "last")] (.cons (.tup (.cons (.var 2 "rows") (.cons (.glob "NONE" (.tuple [(.tuple []), .none, (.int 0)])) (.cons (.glob "NONE" (.tuple [(.tuple []), .none, (.int 0)])) .nil)))) (.cons (.lst .nil) (.cons (.cst (.int 0)) .nil)))) (.cons (.forS (.nm 7 "step") (.seq (.var 3 "history")) (.cons (.ife (.cmp .in_ (.var 7 "step") (.tup (.cons (.glob "PAGE" (.tuple [(.str "page")])) (.cons (.glob "BACK" (.tuple [(.str "back")])) .nil)))) (.cons (.ife (.cmp .eq (.ix (.ix (.var 4 "pair") (.ife (.cmp .eq (.var 7 "step") (.glob "PAGE" (.tuple [(.str "page")]))) (.cst (.int 1)) (.cst (.int 2)))) (.glob "OVER" (.int 2))) (.cst (.int 0))) (.cons (.set 5 "met" (.ife (.cmp .ne (.var 5 "met") (.lst .nil)) (.var 5 "met") (.lst (.cons (.ix (.var 4 "pair") (.glob "NOW" (.int 0))) .nil)))) (.frz 5 (.cons (.set 6 "last" (.bi .len (.var 5 "met"))) .nil))) .nil) .nil) (.cons (.ife (.cmp .ne (.var 5 "met") (.lst .nil)) (.cons (.app 5 "met" (.call 49 (.cons (.ix (.var 4 "pair") (.glob "NOW" (.int 0))) (.cons (.var 7 "step") .nil)))) .nil) .nil) .nil)) (.cons (.set 4 "pair" (.call 455 (.cons (.var 0 "order") (.cons (.var 1 "size") (.cons (.var 4 "pair") (.cons (.var 7 "step") .nil)))))) .nil))) (.frz 5 (.cons (.ret (.tup (.cons (.var 4 "pair") (.cons (.sl (.var 5 "met") .no (.yes (.var 6 "last"))) .nil)))) .nil))))⟩
/-- between_in -/
def b457 : Fd := ⟨2, 8, (.cons (.setT (.tp [(2, "now"), (3, "one"), (4, "other")]) (.var 1 "pair")) (.cons (.set 5 "low" (.ife (.cmp .isnot (.ix (.var 3 "one") (.glob "LAST" (.int 1))) (.cst .none)) (.call 70 (.cons (.var 0 "order") (.cons (.ix (.var 3 "one") (.glob "LAST" (.int 1))) .nil))) (.tup .nil))) (.frz 5 (.cons (.set 6 "rows" (.comp [("own", 7)] (.nm 7 "own") (.seq (.call 71 (.cons (.var 0 "order") (.cons (.var 2 "now") .nil)))) (.yes (.cmp .gt (.call 70 (.cons (.var 0 "order") (.cons (.var 7 "own") .nil))) (.var 5 "low"))) (.var 7 "own"))) (.frz 6 (.cons (.ret (.comp [("own", 7)] (.nm 7 "own") (.seq (.var 6 "rows")) (.yes (.bop true (.cons (.cmp .is (.ix (.var 4 "other") (.glob "LAST" (.int 1))) (.cst .none)) (.cons (.cmp .lt (.call 70 (.cons (.var 0 "order") (.cons (.var 7 "own") .nil))) (.call 70 (.cons (.var 0 "order") (.cons (.ix (.var 4 "other") (.glob "LAST" (.int 1))) .nil)))) .nil)))) (.var 7 "own"))) .nil))))))⟩
/-- fits_steps -/
def b458 : Fd := ⟨1, 2, (.cons (.ife (.notE (.call 0 (.cons (.var 0 "value") (.cons (.cst (.int 0)) (.cons (.glob "STEPS" (.int 60)) .nil))))) (.cons (.ret (.cst (.bool false))) .nil) .nil) (.cons (.ret (.bi .all (.comp [("own", 1)] (.nm 1 "own") (.seq (.var 0 "value")) .no (.bop true (.cons (.call 4 (.cons (.var 1 "own") .nil)) (.cons (.bop false (.cons (.bi (.isi .tuple) (.var 1 "own")) (.cons (.cmp .in_ (.var 1 "own") (.tup (.cons (.glob "PAGE" (.tuple [(.str "page")])) (.cons (.glob "BACK" (.tuple [(.str "back")])) .nil)))) .nil))) .nil)))))) .nil))⟩
/-- need_run -/
def b459 : Fd := ⟨4, 4, (.cons (.expr (.call 72 (.cons (.var 0 "order") .nil))) (.cons (.expr (.call 85 (.cons (.var 1 "size") .nil))) (.cons (.expr (.call 5 (.cons (.var 2 "rows") .nil))) (.cons (.ife (.notE (.call 458 (.cons (.var 3 "history") .nil))) (.cons (.raise 1) .nil) .nil) .nil))))⟩
/-- got_forward -/
def b461 : Fd := ⟨4, 4, (.cons (.expr (.call 459 (.cons (.var 0 "order") (.cons (.var 1 "size") (.cons (.var 2 "rows") (.cons (.var 3 "history") .nil)))))) (.cons (.ret (.ix (.ix (.ix (.call 456 (.cons (.var 0 "order") (.cons (.var 1 "size") (.cons (.var 2 "rows") (.cons (.var 3 "history") .nil))))) (.cst (.int 0))) (.cst (.int 1))) (.glob "GOT" (.int 0)))) .nil))⟩
/-- got_backward -/
def b462 : Fd := ⟨4, 4, (.cons (.expr (.call 459 (.cons (.var 0 "order") (.cons (.var 1 "size") (.cons (.var 2 "rows") (.cons (.var 3 "history") .nil)))))) (.cons (.ret (.ix (.ix (.ix (.call 456 (.cons (.var 0 "order") (.cons (.var 1 "size") (.cons (.var 2 "rows") (.cons (.var 3 "history") .nil))))) (.cst (.int 0))) (.cst (.int 2))) (.glob "GOT" (.int 0)))) .nil))⟩
/-- rows_between -/
def b463 : Fd := ⟨4, 4, (.cons (.expr (.call 459 (.cons (.var 0 "order") (.cons (.var 1 "size") (.cons (.var 2 "rows") (.cons (.var 3 "history") .nil)))))) (.cons (.ret (.bi .tuple (.call 457 (.cons (.var 0 "order") (.cons (.ix (.call 456 (.cons (.var 0 "order") (.cons (.var 1 "size") (.cons (.var 2 "rows") (.cons (.var 3 "history") .nil))))) (.cst (.int 0))) .nil))))) .nil))⟩
/-- _law_forward -/
def b465 : Fd := ⟨4, 10, (.cons (.setT (.tp [(4, "got"), (5, "last"), (6, "over")]) (.var 3 "side")) (.cons (.set 7 "left" (.comp [("row", 8)] (.nm 8 "row") (.seq (.call 83 (.cons (.var 0 "order") (.cons (.var 2 "rows") .nil)))) (.yes (.bop true (.cons (.cmp .is (.var 5 "last") (.cst .none)) (.cons (.cmp .gt (.call 78 (.cons (.var 0 "order") (.cons (.var 8 "row") .nil))) (.call 78 (.cons (.var 0 "order") (.cons (.var 5 "last") .nil)))) .nil)))) (.var 8 "row"))) (.frz 7 (.cons (.set 9 "page" (.bi .tuple (.sl (.var 7 "left") .no (.yes (.var 1 "size"))))) (.cons (.ret (.ife (.cmp .eq (.var 6 "over") (.cst (.int 0))) (.tup (.cons (.bin .add (.var 4 "got") (.var 9 "page")) (.cons (.ife (.cmp .ne (.var 9 "page") (.tup .nil)) (.ix (.var 9 "page") (.neg (.cst (.int 1)))) (.var 5 "last")) (.cons (.ife (.cmp .lt (.bi .len (.var 9 "page")) (.var 1 "size")) (.cst (.int 1)) (.cst (.int 0))) .nil)))) (.var 3 "side"))) .nil)))))⟩
/-- _law_backward -/
def b466 : Fd := ⟨4, 10, (.cons (.setT (.tp [(4, "got"), (5, "last"), (6, "over")]) (.var 3 "side")) (.cons (.set 7 "left" (.comp [("row", 8)] (.nm 8 "row") (.seq (.call 83 (.cons (.var 0 "order") (.cons (.var 2 "rows") .nil)))) (.yes (.bop true (.cons (.cmp .is (.var 5 "last") (.cst .none)) (.cons (.cmp .lt (.call 78 (.cons (.var 0 "order") (.cons (.var 8 "row") .nil))) (.call 78 (.cons (.var 0 "order") (.cons (.var 5 "last") .nil)))) .nil)))) (.var 8 "row"))) (.frz 7 (.cons (.set 9 "page" (.bi .tuple (.sl (.rev (.var 7 "left")) .no (.yes (.var 1 "size"))))) (.cons (.ret (.ife (.cmp .eq (.var 6 "over") (.cst (.int 0))) (.tup (.cons (.bin .add (.var 4 "got") (.var 9 "page")) (.cons (.ife (.cmp .ne (.var 9 "page") (.tup .nil)) (.ix (.var 9 "page") (.neg (.cst (.int 1)))) (.var 5 "last")) (.cons (.ife (.cmp .lt (.bi .len (.var 9 "page")) (.var 1 "size")) (.cst (.int 1)) (.cst (.int 0))) .nil)))) (.var 3 "side"))) .nil)))))⟩
/-- _law_pair -/
def b467 : Fd := ⟨4, 10, (.cons (.setP [(4, "now"), (5, "one"), (6, "other"), (7, "lists"), (8, "last")] (.cons (.var 2 "rows") (.cons (.tup (.cons (.tup .nil) (.cons (.cst .none) (.cons (.cst (.int 0)) .nil)))) (.cons (.tup (.cons (.tup .nil) (.cons (.cst .none) (.cons (.cst (.int 0)) .nil)))) (.cons (.lst .nil) (.cons (.cst (.int 0)) .nil)))))) (.frz 7 (.cons (.forS (.nm 9 "step") (.seq (.var 3 "history")) (.cons (.ife (.cmp .in_ (.var 9 "step") (.tup (.cons (.tup (.cons (.cst (.str "page")) .nil)) (.cons (.tup (.cons (.cst (.str "back")) .nil)) .nil)))) (.cons (.ife (.cmp .eq (.ix (.ife (.cmp .eq (.var 9 "step") (.tup (.cons (.cst (.str "page")) .nil))) (.var 5 "one") (.var 6 "other")) (.cst (.int 2))) (.cst (.int 0))) (.cons (.set 7 "lists" (.ife (.cmp .ne (.var 7 "lists") (.lst .nil)) (.var 7 "lists") (.lst (.cons (.var 4 "now") .nil)))) (.frz 7 (.cons (.set 8 "last" (.bi .len (.var 7 "lists"))) .nil))) .nil) (.cons (.ife (.cmp .eq (.var 9 "step") (.tup (.cons (.cst (.str "page")) .nil))) (.cons (.set 5 "one" (.call 465 (.cons (.var 0 "order") (.cons (.var 1 "size") (.cons (.var 4 "now") (.cons (.var 5 "one") .nil)))))) .nil) (.cons (.set 6 "other" (.call 466 (.cons (.var 0 "order") (.cons (.var 1 "size") (.cons (.var 4 "now") (.cons (.var 6 "other") .nil)))))) .nil)) .nil)) (.cons (.set 4 "now" (.call 57 (.cons (.var 4 "now") (.cons (.var 9 "step") .nil)))) (.frz 4 (.cons (.set 7 "lists" (.bin .add (.var 7 "lists") (.ife (.cmp .ne (.var 7 "lists") (.lst .nil)) (.lst (.cons (.var 4 "now") .nil)) (.lst .nil)))) .nil)))) .nil)) (.cons (.ret (.tup (.cons (.var 4 "now") (.cons (.var 5 "one") (.cons (.var 6 "other") (.cons (.sl (.var 7 "lists") .no (.yes (.var 8 "last"))) .nil)))))) .nil))))⟩
/-- _law_pages -/
def b468 : Fd := ⟨2, 3, (.cons (.ret (.bi .tuple (.comp [("step", 2)] (.nm 2 "step") (.rng (.var 1 "many")) .no (.call 19 (.cons (.var 0 "cup") (.cons (.lst (.cons (.tup (.cons (.cst (.str "page")) .nil)) (.cons (.tup (.cons (.cst (.str "back")) .nil)) (.cons (.call 22 (.cons (.var 0 "cup") .nil)) .nil)))) .nil)))))) .nil)⟩
/-- met_in -/
def b471 : Fd := ⟨2, 5, (.cons (.setT (.tp [(2, "now"), (3, "one"), (4, "other")]) (.var 1 "pair")) (.cons (.ife (.bop true (.cons (.cmp .eq (.ix (.var 3 "one") (.glob "OVER" (.int 2))) (.cst (.int 1))) (.cons (.cmp .eq (.ix (.var 4 "other") (.glob "OVER" (.int 2))) (.cst (.int 1))) .nil))) (.cons (.ret (.cst (.bool true))) .nil) .nil) (.cons (.ife (.bop true (.cons (.cmp .is (.ix (.var 3 "one") (.glob "LAST" (.int 1))) (.cst .none)) (.cons (.cmp .is (.ix (.var 4 "other") (.glob "LAST" (.int 1))) (.cst .none)) .nil))) (.cons (.ret (.cst (.bool false))) .nil) .nil) (.cons (.ret (.cmp .ge (.call 70 (.cons (.var 0 "order") (.cons (.ix (.var 3 "one") (.glob "LAST" (.int 1))) .nil))) (.call 70 (.cons (.var 0 "order") (.cons (.ix (.var 4 "other") (.glob "LAST" (.int 1))) .nil))))) .nil))))⟩
/-- have_met -/
def b472 : Fd := ⟨4, 4, (.cons (.expr (.call 459 (.cons (.var 0 "order") (.cons (.var 1 "size") (.cons (.var 2 "rows") (.cons (.var 3 "history") .nil)))))) (.cons (.ret (.call 471 (.cons (.var 0 "order") (.cons (.ix (.call 456 (.cons (.var 0 "order") (.cons (.var 1 "size") (.cons (.var 2 "rows") (.cons (.var 3 "history") .nil))))) (.cst (.int 0))) .nil)))) .nil))⟩
/-- got_by_none -/
def b473 : Fd := ⟨4, 8, (.cons (.expr (.call 459 (.cons (.var 0 "order") (.cons (.var 1 "size") (.cons (.var 2 "rows") (.cons (.var 3 "history") .nil)))))) (.cons (.setT (.tp [(4, "pair"), (5, "lists")]) (.call 456 (.cons (.var 0 "order") (.cons (.var 1 "size") (.cons (.var 2 "rows") (.cons (.var 3 "history") .nil)))))) (.cons (.set 6 "steady" (.ife (.cmp .ne (.var 5 "lists") (.lst .nil)) (.call 60 (.cons (.var 5 "lists") .nil)) (.lst .nil))) (.frz 6 (.cons (.ret (.bi .tuple (.comp [("own", 7)] (.nm 7 "own") (.seq (.var 6 "steady")) (.yes (.cmp .notin (.var 7 "own") (.bin .add (.ix (.ix (.var 4 "pair") (.cst (.int 1))) (.glob "GOT" (.int 0))) (.ix (.ix (.var 4 "pair") (.cst (.int 2))) (.glob "GOT" (.int 0)))))) (.var 7 "own")))) .nil)))))⟩
/-- steps_to_meet -/
def b474 : Fd := ⟨4, 7, (.cons (.expr (.call 459 (.cons (.var 0 "order") (.cons (.var 1 "size") (.cons (.var 2 "rows") (.cons (.var 3 "history") .nil)))))) (.cons (.set 4 "pair" (.tup (.cons (.var 2 "rows") (.cons (.glob "NONE" (.tuple [(.tuple []), .none, (.int 0)])) (.cons (.glob "NONE" (.tuple [(.tuple []), .none, (.int 0)])) .nil))))) (.cons (.forS (.tp [(5, "many"), (6, "step")]) (.enum (.var 3 "history")) (.cons (.set 4 "pair" (.call 455 (.cons (.var 0 "order") (.cons (.var 1 "size") (.cons (.var 4 "pair") (.cons (.var 6 "step") .nil)))))) (.frz 4 (.cons (.ife (.call 471 (.cons (.var 0 "order") (.cons (.var 4 "pair") .nil))) (.cons (.ret (.bin .add (.var 5 "many") (.cst (.int 1)))) .nil) .nil) .nil)))) (.cons (.ret (.cst .none)) .nil))))⟩
/-- is_rising -/
def b485 : Fd := ⟨1, 3, (.cons (.ret (.bi .all (.comp [("one", 1), ("other", 2)] (.tp [(1, "one"), (2, "other")]) (.zip (.var 0 "value") (.sl (.var 0 "value") (.yes (.cst (.int 1))) .no)) .no (.cmp .lt (.var 1 "one") (.var 2 "other"))))) .nil)⟩
/-- fits_renaming -/
def b486 : Fd := ⟨3, 3, (.cons (.ife (.bop true (.cons (.notE (.call 0 (.cons (.var 2 "value") (.cons (.cst (.int 2)) (.cons (.cst (.int 2)) .nil))))) (.cons (.notE (.call 484 (.cons (.ix (.var 2 "value") (.cst (.int 0))) (.cons (.bi .len (.call 482 (.cons (.var 0 "rows") (.cons (.var 1 "history") .nil)))) (.cons (.glob "KEYS" (.int 10)) .nil))))) .nil))) (.cons (.ret (.cst (.bool false))) .nil) .nil) (.cons (.ret (.bop false (.cons (.call 484 (.cons (.ix (.var 2 "value") (.cst (.int 1))) (.cons (.bi .len (.call 483 (.cons (.var 0 "rows") (.cons (.var 1 "history") .nil)))) (.cons (.glob "RANKS" (.int 6)) .nil)))) (.cons (.call 485 (.cons (.ix (.var 2 "value") (.cst (.int 0))) .nil)) (.cons (.call 485 (.cons (.ix (.var 2 "value") (.cst (.int 1))) .nil)) .nil))))) .nil))⟩
/-- rows_by -/
def b487 : Fd := ⟨3, 4, (.cons (.ret (.bi .tuple (.comp [("own", 3)] (.nm 3 "own") (.seq (.var 2 "rows")) .no (.tup (.cons (.ix (.var 0 "keys") (.ix (.var 3 "own") (.glob "KEY" (.int 0)))) (.cons (.ix (.var 1 "ranks") (.ix (.var 3 "own") (.glob "RANK" (.int 1)))) .nil)))))) .nil)⟩
/-- step_by -/
def b488 : Fd := ⟨3, 3, (.cons (.ife (.cmp .eq (.var 2 "step") (.glob "PAGE" (.tuple [(.str "page")]))) (.cons (.ret (.var 2 "step")) .nil) .nil) (.cons (.ret (.ife (.cmp .eq (.ix (.var 2 "step") (.cst (.int 0))) (.cst (.str "drop"))) (.tup (.cons (.cst (.str "drop")) (.cons (.ix (.var 0 "keys") (.ix (.var 2 "step") (.cst (.int 1)))) .nil))) (.tup (.cons (.cst (.str "put")) (.cons (.ix (.var 0 "keys") (.ix (.var 2 "step") (.cst (.int 1)))) (.cons (.ix (.var 1 "ranks") (.ix (.var 2 "step") (.cst (.int 2)))) .nil)))))) .nil))⟩
/-- ways_to_take -/
def b491 : Fd := ⟨2, 4, (.cons (.set 2 "found" (.cst (.int 1))) (.cons (.forS (.nm 3 "own") (.rng (.var 1 "some")) (.cons (.set 2 "found" (.bin .fdiv (.bin .mul (.var 2 "found") (.bin .sub (.var 0 "many") (.var 3 "own"))) (.bin .add (.var 3 "own") (.cst (.int 1))))) .nil)) (.cons (.ret (.var 2 "found")) .nil)))⟩
/-- need_history -/
def b492 : Fd := ⟨1, 1, (.cons (.ife (.notE (.call 8 (.cons (.var 0 "value") .nil))) (.cons (.raise 1) .nil) .nil) .nil)⟩
/-- keys_met -/
def b493 : Fd := ⟨2, 2, (.cons (.expr (.call 5 (.cons (.var 0 "rows") .nil))) (.cons (.expr (.call 492 (.cons (.var 1 "history") .nil))) (.cons (.ret (.bi .tuple (.call 482 (.cons (.var 0 "rows") (.cons (.var 1 "history") .nil))))) .nil)))⟩
/-- ranks_met -/
def b494 : Fd := ⟨2, 2, (.cons (.expr (.call 5 (.cons (.var 0 "rows") .nil))) (.cons (.expr (.call 492 (.cons (.var 1 "history") .nil))) (.cons (.ret (.bi .tuple (.call 483 (.cons (.var 0 "rows") (.cons (.var 1 "history") .nil))))) .nil)))⟩
/-- is_run_renaming -/
def b495 : Fd := ⟨3, 3, (.cons (.expr (.call 5 (.cons (.var 0 "rows") .nil))) (.cons (.expr (.call 492 (.cons (.var 1 "history") .nil))) (.cons (.ret (.call 486 (.cons (.var 0 "rows") (.cons (.var 1 "history") (.cons (.var 2 "value") .nil))))) .nil)))⟩
/-- renamings_many -/
def b496 : Fd := ⟨2, 2, (.cons (.expr (.call 5 (.cons (.var 0 "rows") .nil))) (.cons (.expr (.call 492 (.cons (.var 1 "history") .nil))) (.cons (.ret (.bin .mul (.call 491 (.cons (.glob "KEYS" (.int 10)) (.cons (.bi .len (.call 482 (.cons (.var 0 "rows") (.cons (.var 1 "history") .nil)))) .nil))) (.call 491 (.cons (.glob "RANKS" (.int 6)) (.cons (.bi .len (.call 483 (.cons (.var 0 "rows") (.cons (.var 1 "history") .nil)))) .nil))))) .nil)))⟩
/-- plain_run -/
def b497 : Fd := ⟨2, 2, (.cons (.expr (.call 5 (.cons (.var 0 "rows") .nil))) (.cons (.expr (.call 492 (.cons (.var 1 "history") .nil))) (.cons (.ret (.call 489 (.cons (.var 0 "rows") (.cons (.var 1 "history") (.cons (.call 490 (.cons (.var 0 "rows") (.cons (.var 1 "history") .nil))) .nil))))) .nil)))⟩
/-- _law_met -/
def b498 : Fd := ⟨2, 7, (.cons (.setP [(2, "keys"), (3, "ranks")] (.cons (.comp [("key", 4), ("rank", 5)] (.tp [(4, "key"), (5, "rank")]) (.seq (.var 0 "rows")) .no (.var 4 "key")) (.cons (.comp [("key", 4), ("rank", 5)] (.tp [(4, "key"), (5, "rank")]) (.seq (.var 0 "rows")) .no (.var 5 "rank")) .nil))) (.cons (.forS (.nm 6 "step") (.seq (.var 1 "history")) (.cons (.set 2 "keys" (.bin .add (.var 2 "keys") (.ife (.cmp .in_ (.ix (.var 6 "step") (.cst (.int 0))) (.tup (.cons (.cst (.str "put")) (.cons (.cst (.str "drop")) .nil)))) (.lst (.cons (.ix (.var 6 "step") (.cst (.int 1))) .nil)) (.lst .nil)))) (.cons (.set 3 "ranks" (.bin .add (.var 3 "ranks") (.ife (.cmp .eq (.ix (.var 6 "step") (.cst (.int 0))) (.cst (.str "put"))) (.lst (.cons (.ix (.var 6 "step") (.cst (.int 2))) .nil)) (.lst .nil)))) .nil))) (.cons (.ret (.tup (.cons (.comp [("key", 4)] (.nm 4 "key") (.rng (.cst (.int 10))) (.yes (.cmp .in_ (.var 4 "key") (.var 2 "keys"))) (.var 4 "key")) (.cons (.comp [("rank", 5)] (.nm 5 "rank") (.rng (.cst (.int 6))) (.yes (.cmp .in_ (.var 5 "rank") (.var 3 "ranks"))) (.var 5 "rank")) .nil)))) .nil)))⟩
/-- _law_run -/
def b502 : Fd := ⟨1, 1, (.cons (.ret (.tup (.cons (.call 21 (.cons (.var 0 "cup") (.cons (.cst (.int 6)) .nil))) (.cons (.call 23 (.cons (.var 0 "cup") (.cons (.call 19 (.cons (.var 0 "cup") (.cons (.lst (.cons (.cst (.int 3)) (.cons (.cst (.int 6)) (.cons (.cst (.int 10)) .nil)))) .nil))) .nil))) .nil)))) .nil)⟩
/-- need_renaming -/
def b504 : Fd := ⟨3, 3, (.cons (.expr (.call 5 (.cons (.var 0 "rows") .nil))) (.cons (.expr (.call 492 (.cons (.var 1 "history") .nil))) (.cons (.ife (.notE (.call 486 (.cons (.var 0 "rows") (.cons (.var 1 "history") (.cons (.var 2 "value") .nil))))) (.cons (.raise 3) .nil) .nil) .nil)))⟩
/-- renamed_run -/
def b505 : Fd := ⟨3, 3, (.cons (.expr (.call 504 (.cons (.var 0 "rows") (.cons (.var 1 "history") (.cons (.var 2 "renaming") .nil))))) (.cons (.ret (.call 489 (.cons (.var 0 "rows") (.cons (.var 1 "history") (.cons (.var 2 "renaming") .nil))))) .nil))⟩
/-- renaming_back -/
def b507 : Fd := ⟨3, 3, (.cons (.expr (.call 504 (.cons (.var 0 "rows") (.cons (.var 1 "history") (.cons (.var 2 "renaming") .nil))))) (.cons (.ret (.tup (.cons (.bi .tuple (.call 482 (.cons (.var 0 "rows") (.cons (.var 1 "history") .nil)))) (.cons (.bi .tuple (.call 483 (.cons (.var 0 "rows") (.cons (.var 1 "history") .nil)))) .nil)))) .nil))⟩
/-- are_one_form -/
def b509 : Fd := ⟨4, 4, (.cons (.expr (.call 5 (.cons (.var 0 "rows") .nil))) (.cons (.expr (.call 492 (.cons (.var 1 "history") .nil))) (.cons (.expr (.call 5 (.cons (.var 2 "more") .nil))) (.cons (.expr (.call 492 (.cons (.var 3 "other") .nil))) (.cons (.ret (.cmp .eq (.call 489 (.cons (.var 0 "rows") (.cons (.var 1 "history") (.cons (.call 490 (.cons (.var 0 "rows") (.cons (.var 1 "history") .nil))) .nil)))) (.call 489 (.cons (.var 2 "more") (.cons (.var 3 "other") (.cons (.call 490 (.cons (.var 2 "more") (.cons (.var 3 "other") .nil))) .nil)))))) .nil)))))⟩
/-- renaming_to -/
def b510 : Fd := ⟨4, 4, (.cons (.ife (.notE (.call 509 (.cons (.var 0 "rows") (.cons (.var 1 "history") (.cons (.var 2 "more") (.cons (.var 3 "other") .nil)))))) (.cons (.ret (.cst .none)) .nil) .nil) (.cons (.ret (.tup (.cons (.bi .tuple (.call 482 (.cons (.var 2 "more") (.cons (.var 3 "other") .nil)))) (.cons (.bi .tuple (.call 483 (.cons (.var 2 "more") (.cons (.var 3 "other") .nil)))) .nil)))) .nil))⟩
/-- reranked_run -/
def b511 : Fd := ⟨3, 3, (.cons (.expr (.call 5 (.cons (.var 0 "rows") .nil))) (.cons (.expr (.call 492 (.cons (.var 1 "history") .nil))) (.cons (.ife (.notE (.call 484 (.cons (.var 2 "ranks") (.cons (.bi .len (.call 483 (.cons (.var 0 "rows") (.cons (.var 1 "history") .nil)))) (.cons (.glob "RANKS" (.int 6)) .nil))))) (.cons (.raise 3) .nil) .nil) (.cons (.ret (.call 489 (.cons (.var 0 "rows") (.cons (.var 1 "history") (.cons (.tup (.cons (.bi .tuple (.call 482 (.cons (.var 0 "rows") (.cons (.var 1 "history") .nil)))) (.cons (.var 2 "ranks") .nil))) .nil))))) .nil))))⟩
/-- is_text -/
def b518 : Fd := ⟨1, 2, (.cons (.ife (.bop true (.cons (.notE (.bi (.isi .str) (.var 0 "value"))) (.cons (.cmp .gt (.bi .len (.var 0 "value")) (.glob "LONGEST" (.int 20000))) .nil))) (.cons (.ret (.cst (.bool false))) .nil) .nil) (.cons (.ret (.bi .all (.comp [("sign", 1)] (.nm 1 "sign") (.seq (.var 0 "value")) .no (.bop true (.cons (.chain .le .le (.cst (.str " ")) (.var 1 "sign") (.cst (.str "~"))) (.cons (.cmp .eq (.var 1 "sign") (.cst (.str "\n"))) .nil)))))) .nil))⟩
/-- need_text -/
def b519 : Fd := ⟨1, 1, (.cons (.ife (.notE (.call 518 (.cons (.var 0 "value") .nil))) (.cons (.raise 11) .nil) .nil) .nil)⟩
/-- is_numeral -/
def b520 : Fd := ⟨1, 2, (.cons (.ife (.bop true (.cons (.cmp .eq (.var 0 "word") (.cst (.str ""))) (.cons (.cmp .gt (.bi .len (.var 0 "word")) (.glob "MOST_FIGURES" (.int 3))) (.cons (.notE (.bi .all (.comp [("sign", 1)] (.nm 1 "sign") (.seq (.var 0 "word")) .no (.cmp .in_ (.var 1 "sign") (.glob "FIGURES" (.str "0123456789")))))) .nil)))) (.cons (.ret (.cst (.bool false))) .nil) .nil) (.cons (.ret (.bop true (.cons (.cmp .eq (.var 0 "word") (.cst (.str "0"))) (.cons (.cmp .ne (.ix (.var 0 "word") (.cst (.int 0))) (.cst (.str "0"))) .nil)))) .nil))⟩
/-- is_item -/
def b521 : Fd := ⟨2, 2, (.cons (.ret (.ife (.cmp .eq (.var 0 "want") (.cst (.str "#"))) (.call 520 (.cons (.var 1 "word") .nil)) (.cmp .eq (.var 1 "word") (.var 0 "want")))) .nil)⟩
/-- taken -/
def b526 : Fd := ⟨2, 5, (.cons (.ife (.cmp .eq (.var 1 "word") (.cst (.str ""))) (.cons (.ret (.var 0 "wants")) .nil) .nil) (.cons (.set 2 "some" (.comp [("want", 3), ("later", 4)] (.tp [(3, "want"), (4, "later")]) (.seq (.call 524 (.cons (.var 0 "wants") .nil))) (.yes (.call 521 (.cons (.var 3 "want") (.cons (.var 1 "word") .nil)))) (.var 4 "later"))) (.frz 2 (.cons (.ret (.ife (.cmp .ne (.var 2 "some") (.lst .nil)) (.ix (.var 2 "some") (.cst (.int 0))) (.cst .none))) .nil))))⟩
/-- row_items -/
def b532 : Fd := ⟨1, 1, (.cons (.ret (.lst (.cons (.cst (.str "row")) (.cons (.bi .str (.ix (.var 0 "row") (.cst (.int 0)))) (.cons (.cst (.str "rank")) (.cons (.bi .str (.ix (.var 0 "row") (.cst (.int 1)))) (.cons (.cst (.str ";")) .nil))))))) .nil)⟩
/-- step_items -/
def b533 : Fd := ⟨1, 1, (.cons (.ife (.cmp .eq (.var 0 "step") (.glob "PAGE" (.tuple [(.str "page")]))) (.cons (.ret (.lst (.cons (.cst (.str "page")) (.cons (.cst (.str ";")) .nil)))) .nil) .nil) (.cons (.ife (.cmp .eq (.ix (.var 0 "step") (.cst (.int 0))) (.cst (.str "drop"))) (.cons (.ret (.lst (.cons (.cst (.str "drop")) (.cons (.bi .str (.ix (.var 0 "step") (.cst (.int 1)))) (.cons (.cst (.str ";")) .nil))))) .nil) .nil) (.cons (.ret (.lst (.cons (.cst (.str "put")) (.cons (.bi .str (.ix (.var 0 "step") (.cst (.int 1)))) (.cons (.cst (.str "rank")) (.cons (.bi .str (.ix (.var 0 "step") (.cst (.int 2)))) (.cons (.cst (.str ";")) .nil))))))) .nil)))⟩
/-- row_in -/
def b534 : Fd := ⟨1, 1, (.cons (.ret (.tup (.cons (.bi .int (.ix (.var 0 "line") (.cst (.int 1)))) (.cons (.bi .int (.ix (.var 0 "line") (.cst (.int 3)))) .nil)))) .nil)⟩
/-- step_in -/
def b535 : Fd := ⟨1, 1, (.cons (.ife (.cmp .eq (.ix (.var 0 "line") (.cst (.int 0))) (.cst (.str "page"))) (.cons (.ret (.glob "PAGE" (.tuple [(.str "page")]))) .nil) .nil) (.cons (.ret (.ife (.cmp .eq (.ix (.var 0 "line") (.cst (.int 0))) (.cst (.str "drop"))) (.tup (.cons (.cst (.str "drop")) (.cons (.bi .int (.ix (.var 0 "line") (.cst (.int 1)))) .nil))) (.tup (.cons (.cst (.str "put")) (.cons (.bi .int (.ix (.var 0 "line") (.cst (.int 1)))) (.cons (.bi .int (.ix (.var 0 "line") (.cst (.int 3)))) .nil)))))) .nil))⟩
/-- listed -/
def b536 : Fd := ⟨1, 3, (.cons (.set 1 "rows" (.bi .tuple (.bi .sorted (.comp [("line", 2)] (.nm 2 "line") (.seq (.var 0 "lines")) .no (.call 534 (.cons (.var 2 "line") .nil)))))) (.cons (.ife (.notE (.call 3 (.cons (.var 1 "rows") .nil))) (.cons (.raise 0) .nil) .nil) (.cons (.ret (.var 1 "rows")) .nil)))⟩
/-- stepped -/
def b537 : Fd := ⟨1, 3, (.cons (.set 1 "history" (.bi .tuple (.comp [("line", 2)] (.nm 2 "line") (.seq (.var 0 "lines")) .no (.call 535 (.cons (.var 2 "line") .nil))))) (.cons (.ife (.notE (.call 8 (.cons (.var 1 "history") .nil))) (.cons (.raise 1) .nil) .nil) (.cons (.ret (.var 1 "history")) .nil)))⟩
/-- read_history -/
def b541 : Fd := ⟨1, 1, (.cons (.ret (.call 537 (.cons (.call 531 (.cons (.call 529 (.cons (.var 0 "text") (.cons (.cst (.str "history")) .nil))) .nil)) .nil))) .nil)⟩
/-- _law_spread -/
def b542 : Fd := ⟨2, 6, (.cons (.setP [(2, "found"), (3, "ahead")] (.cons (.call 19 (.cons (.var 0 "cup") (.cons (.lst (.cons (.cst (.str "")) (.cons (.cst (.str " ")) (.cons (.cst (.str "\n")) .nil)))) .nil))) (.cons (.cst (.str ";")) .nil))) (.cons (.forS (.nm 4 "item") (.seq (.var 1 "items")) (.cons (.set 5 "few" (.ife (.bop true (.cons (.cmp .in_ (.var 4 "item") (.tup (.cons (.cst (.str ",")) (.cons (.cst (.str ";")) .nil)))) (.cons (.cmp .in_ (.var 3 "ahead") (.tup (.cons (.cst (.str ",")) (.cons (.cst (.str ";")) .nil)))) .nil))) (.lst (.cons (.cst (.str "")) (.cons (.cst (.str " ")) (.cons (.cst (.str "\n ")) .nil)))) (.lst (.cons (.cst (.str " ")) (.cons (.cst (.str "\n")) (.cons (.cst (.str "  ")) .nil)))))) (.frz 5 (.cons (.setP [(2, "found"), (3, "ahead")] (.cons (.bin .add (.bin .add (.var 2 "found") (.call 19 (.cons (.var 0 "cup") (.cons (.var 5 "few") .nil)))) (.var 4 "item")) (.cons (.var 4 "item") .nil))) .nil)))) (.cons (.ret (.bin .add (.var 2 "found") (.call 19 (.cons (.var 0 "cup") (.cons (.lst (.cons (.cst (.str "")) (.cons (.cst (.str " ")) (.cons (.cst (.str "\n")) .nil)))) .nil))))) .nil)))⟩
/-- _law_items -/
def b544 : Fd := ⟨1, 1, (.cons (.ife (.cmp .in_ (.ix (.var 0 "row") (.cst (.int 0))) (.tup (.cons (.cst (.str "page")) (.cons (.cst (.str "ask")) .nil)))) (.cons (.ret (.lst (.cons (.ix (.var 0 "row") (.cst (.int 0))) (.cons (.cst (.str ";")) .nil)))) .nil) .nil) (.cons (.ife (.cmp .eq (.ix (.var 0 "row") (.cst (.int 0))) (.cst (.str "drop"))) (.cons (.ret (.lst (.cons (.cst (.str "drop")) (.cons (.bi .str (.ix (.var 0 "row") (.cst (.int 1)))) (.cons (.cst (.str ";")) .nil))))) .nil) .nil) (.cons (.ife (.cmp .eq (.ix (.var 0 "row") (.cst (.int 0))) (.cst (.str "put"))) (.cons (.ret (.lst (.cons (.cst (.str "put")) (.cons (.bi .str (.ix (.var 0 "row") (.cst (.int 1)))) (.cons (.cst (.str "rank")) (.cons (.bi .str (.ix (.var 0 "row") (.cst (.int 2)))) (.cons (.cst (.str ";")) .nil))))))) .nil) .nil) (.cons (.ife (.bi (.isi .tuple) (.ix (.var 0 "row") (.cst (.int 1)))) (.cons (.ret (.bin .add (.lst (.cons (.cst (.str "stamp")) (.cons (.bi .str (.ix (.var 0 "row") (.cst (.int 0)))) .nil))) (.call 544 (.cons (.ix (.var 0 "row") (.cst (.int 1))) .nil)))) .nil) .nil) (.cons (.ret (.lst (.cons (.cst (.str "row")) (.cons (.bi .str (.ix (.var 0 "row") (.cst (.int 0)))) (.cons (.cst (.str "rank")) (.cons (.bi .str (.ix (.var 0 "row") (.cst (.int 1)))) (.cons (.cst (.str ";")) .nil))))))) .nil)))))⟩
/-- _law_all_items -/
def b545 : Fd := ⟨1, 3, (.cons (.set 1 "found" (.lst .nil)) (.cons (.forS (.nm 2 "row") (.seq (.var 0 "rows")) (.cons (.set 1 "found" (.bin .add (.var 1 "found") (.call 544 (.cons (.var 2 "row") .nil)))) .nil)) (.cons (.ret (.var 1 "found")) .nil)))⟩
/-- _law_mix -/
def b547 : Fd := ⟨2, 5, (.cons (.set 2 "found" (.lst .nil)) (.frz 2 (.cons (.forS (.nm 3 "one") (.seq (.var 1 "things")) (.cons (.set 4 "at" (.call 18 (.cons (.var 0 "cup") (.cons (.bin .add (.bi .len (.var 2 "found")) (.cst (.int 1))) .nil)))) (.frz 4 (.cons (.set 2 "found" (.bin .add (.bin .add (.sl (.var 2 "found") .no (.yes (.var 4 "at"))) (.lst (.cons (.var 3 "one") .nil))) (.sl (.var 2 "found") (.yes (.var 4 "at")) .no))) .nil)))) (.cons (.ret (.var 2 "found")) .nil))))⟩
/-- need_sort -/
def b558 : Fd := ⟨1, 1, (.cons (.ife (.bop true (.cons (.notE (.bi (.isi .str) (.var 0 "value"))) (.cons (.cmp .notin (.var 0 "value") (.glob "SORTS" (.tuple [(.str "list"), (.str "history"), (.str "following"), (.str "table"), (.str "run")]))) .nil))) (.cons (.raise 3) .nil) .nil) .nil)⟩
/-- has_form -/
def b559 : Fd := ⟨2, 7, (.cons (.expr (.call 558 (.cons (.var 0 "sort") .nil))) (.cons (.ife (.notE (.call 518 (.cons (.var 1 "value") .nil))) (.cons (.ret (.cst (.bool false))) .nil) .nil) (.cons (.setT (.tp [(2, "items"), (3, "wants"), (4, "word"), (5, "many")]) (.call 527 (.cons (.var 0 "sort") (.cons (.var 1 "value") .nil)))) (.cons (.set 6 "behind" (.call 526 (.cons (.var 3 "wants") (.cons (.var 4 "word") .nil)))) (.frz 6 (.cons (.ret (.bop false (.cons (.cmp .eq (.var 5 "many") (.bi .len (.var 1 "value"))) (.cons (.cmp .isnot (.var 6 "behind") (.cst .none)) (.cons (.call 525 (.cons (.var 6 "behind") .nil)) .nil))))) .nil))))))⟩
/-- _law_table_items -/
def b564 : Fd := ⟨1, 5, (.cons (.set 1 "words" (.lst (.cons (.lst (.cons (.cst (.str "keys")) (.cons (.cst (.str "ranks")) .nil))) (.cons (.lst (.cons (.cst (.str "count")) (.cons (.cst (.str "alone")) (.cons (.cst (.str "whole")) .nil)))) (.cons (.lst (.cons (.cst (.str "behind")) (.cons (.cst (.str "at")) .nil))) (.cons (.lst (.cons (.cst (.str "now")) (.cons (.cst (.str "first")) .nil))) (.cons (.lst (.cons (.cst (.str "all")) (.cons (.cst (.str "new")) .nil))) (.cons (.lst (.cons (.cst (.str "on")) (.cons (.cst (.str "anew")) (.cons (.cst (.str "over")) .nil)))) .nil)))))))) (.frz 1 (.cons (.set 2 "found" (.lst .nil)) (.cons (.forS (.tp [(3, "at"), (4, "head")]) (.enum (.lst (.cons (.cst (.str "by")) (.cons (.cst (.str "mark")) (.cons (.cst (.str "begin")) (.cons (.cst (.str "view")) (.cons (.cst (.str "get")) (.cons (.cst (.str "gone")) .nil)))))))) (.cons (.set 2 "found" (.bin .add (.var 2 "found") (.lst (.cons (.var 4 "head") (.cons (.ix (.ix (.var 1 "words") (.var 3 "at")) (.ix (.var 0 "table") (.var 3 "at"))) (.cons (.ife (.cmp .lt (.var 3 "at") (.cst (.int 5))) (.cst (.str ",")) (.cst (.str ";"))) .nil)))))) .nil)) (.cons (.ret (.var 2 "found")) .nil)))))⟩
/-- fits_table -/
def b588 : Fd := ⟨1, 3, (.cons (.ife (.notE (.call 0 (.cons (.var 0 "value") (.cons (.bi .len (.glob "MOST_readings" (.tuple [(.int 1), (.int 2), (.int 1), (.int 1), (.int 1), (.int 2)]))) (.cons (.bi .len (.glob "MOST_readings" (.tuple [(.int 1), (.int 2), (.int 1), (.int 1), (.int 1), (.int 2)]))) .nil))))) (.cons (.ret (.cst (.bool false))) .nil) .nil) (.cons (.ret (.bi .all (.comp [("own", 1), ("most", 2)] (.tp [(1, "own"), (2, "most")]) (.zip (.var 0 "value") (.glob "MOST_readings" (.tuple [(.int 1), (.int 2), (.int 1), (.int 1), (.int 1), (.int 2)]))) .no (.call 1 (.cons (.var 1 "own") (.cons (.cst (.int 0)) (.cons (.var 2 "most") .nil))))))) .nil))⟩
/-- need_table -/
def b589 : Fd := ⟨1, 1, (.cons (.ife (.notE (.call 588 (.cons (.var 0 "value") .nil))) (.cons (.raise 7) .nil) .nil) .nil)⟩
/-- fits_log -/
def b590 : Fd := ⟨1, 2, (.cons (.ret (.bop false (.cons (.call 0 (.cons (.var 0 "value") (.cons (.cst (.int 0)) (.cons (.glob "MOST_bench" (.int 60)) .nil)))) (.cons (.bi .all (.comp [("own", 1)] (.nm 1 "own") (.seq (.var 0 "value")) .no (.call 7 (.cons (.var 1 "own") .nil)))) .nil)))) .nil)⟩
/-- why_barred -/
def b591 : Fd := ⟨3, 3, (.cons (.ife (.bop false (.cons (.cmp .eq (.var 2 "step") (.glob "PAGE" (.tuple [(.str "page")]))) (.cons (.cmp .eq (.ix (.var 0 "reading") (.glob "OVER" (.int 5))) (.cst (.int 1))) .nil))) (.cons (.ret (.cst (.str "over"))) .nil) .nil) (.cons (.ife (.bop false (.cons (.cmp .ne (.var 2 "step") (.glob "PAGE" (.tuple [(.str "page")]))) (.cons (.cmp .eq (.call 49 (.cons (.ix (.var 0 "reading") (.glob "NOW" (.int 0))) (.cons (.var 2 "step") .nil))) (.ix (.var 0 "reading") (.glob "NOW" (.int 0)))) .nil))) (.cons (.ret (.cst (.str "idle"))) .nil) .nil) (.cons (.ret (.ife (.cmp .eq (.var 1 "many") (.glob "MOST_bench" (.int 60))) (.cst (.str "full")) (.cst (.str "")))) .nil)))⟩
/-- is_bench_log -/
def b592 : Fd := ⟨4, 7, (.cons (.expr (.call 589 (.cons (.var 0 "table") .nil))) (.cons (.expr (.call 85 (.cons (.var 1 "size") .nil))) (.cons (.expr (.call 5 (.cons (.var 2 "rows") .nil))) (.cons (.ife (.notE (.call 590 (.cons (.var 3 "value") .nil))) (.cons (.ret (.cst (.bool false))) .nil) .nil) (.cons (.set 4 "reading" (.call 93 (.cons (.var 2 "rows") .nil))) (.frz 4 (.cons (.forS (.tp [(5, "many"), (6, "step")]) (.enum (.var 3 "value")) (.cons (.ife (.cmp .ne (.call 591 (.cons (.var 4 "reading") (.cons (.var 5 "many") (.cons (.var 6 "step") .nil)))) (.cst (.str ""))) (.cons (.ret (.cst (.bool false))) .nil) .nil) (.cons (.set 4 "reading" (.call 137 (.cons (.var 0 "table") (.cons (.var 1 "size") (.cons (.var 4 "reading") (.cons (.var 6 "step") .nil)))))) .nil))) (.cons (.ret (.cst (.bool true))) .nil))))))))⟩
/-- costs_in -/
def b608 : Fd := ⟨4, 8, (.cons (.setP [(4, "found"), (5, "reading")] (.cons (.lst .nil) (.cons (.call 93 (.cons (.var 2 "rows") .nil)) .nil))) (.frz 5 (.cons (.forS (.nm 6 "step") (.seq (.var 3 "history")) (.cons (.set 7 "later" (.call 137 (.cons (.var 0 "table") (.cons (.var 1 "size") (.cons (.var 5 "reading") (.cons (.var 6 "step") .nil)))))) (.frz 7 (.cons (.ife (.bop false (.cons (.cmp .eq (.var 6 "step") (.glob "PAGE" (.tuple [(.str "page")]))) (.cons (.cmp .eq (.ix (.var 5 "reading") (.glob "OVER" (.int 5))) (.cst (.int 0))) .nil))) (.cons (.app 4 "found" (.tup (.cons (.call 106 (.cons (.var 0 "table") (.cons (.var 1 "size") (.cons (.var 5 "reading") .nil)))) (.cons (.bin .sub (.bi .len (.ix (.var 7 "later") (.glob "GOT" (.int 2)))) (.bi .len (.ix (.var 5 "reading") (.glob "GOT" (.int 2))))) .nil)))) .nil) .nil) (.cons (.set 5 "reading" (.var 7 "later")) .nil))))) (.cons (.ret (.var 4 "found")) .nil))))⟩
/-- page_costs -/
def b609 : Fd := ⟨4, 6, (.cons (.expr (.call 140 (.cons (.var 0 "table") (.cons (.var 1 "size") (.cons (.var 2 "rows") (.cons (.var 3 "history") .nil)))))) (.cons (.ret (.bi .tuple (.comp [("page", 4), ("got", 5)] (.tp [(4, "page"), (5, "got")]) (.seq (.call 608 (.cons (.var 0 "table") (.cons (.var 1 "size") (.cons (.var 2 "rows") (.cons (.var 3 "history") .nil)))))) .no (.tup (.cons (.bi .len (.var 4 "page")) (.cons (.var 5 "got") .nil)))))) .nil))⟩
/-- cost_along -/
def b610 : Fd := ⟨4, 7, (.cons (.expr (.call 140 (.cons (.var 0 "table") (.cons (.var 1 "size") (.cons (.var 2 "rows") (.cons (.var 3 "history") .nil)))))) (.cons (.set 4 "found" (.call 608 (.cons (.var 0 "table") (.cons (.var 1 "size") (.cons (.var 2 "rows") (.cons (.var 3 "history") .nil)))))) (.frz 4 (.cons (.ret (.tup (.cons (.bi .len (.var 4 "found")) (.cons (.bi .sum (.comp [("page", 5), ("got", 6)] (.tp [(5, "page"), (6, "got")]) (.seq (.var 4 "found")) .no (.bi .len (.var 5 "page")))) (.cons (.bi .sum (.comp [("page", 5), ("got", 6)] (.tp [(5, "page"), (6, "got")]) (.seq (.var 4 "found")) .no (.var 6 "got"))) .nil))))) .nil))))⟩
/-- rows_again -/
def b611 : Fd := ⟨4, 9, (.cons (.expr (.call 140 (.cons (.var 0 "table") (.cons (.var 1 "size") (.cons (.var 2 "rows") (.cons (.var 3 "history") .nil)))))) (.cons (.setP [(4, "met"), (5, "many")] (.cons (.lst .nil) (.cons (.cst (.int 0)) .nil))) (.cons (.forS (.tp [(6, "page"), (7, "got")]) (.seq (.call 608 (.cons (.var 0 "table") (.cons (.var 1 "size") (.cons (.var 2 "rows") (.cons (.var 3 "history") .nil)))))) (.cons (.set 5 "many" (.bin .add (.var 5 "many") (.bi .len (.comp [("own", 8)] (.nm 8 "own") (.seq (.var 6 "page")) (.yes (.cmp .in_ (.ix (.var 8 "own") (.glob "KEY" (.int 0))) (.var 4 "met"))) (.var 8 "own"))))) (.cons (.set 4 "met" (.bin .add (.var 4 "met") (.call 50 (.cons (.var 6 "page") .nil)))) .nil))) (.cons (.ret (.var 5 "many")) .nil))))⟩
/-- idle_pages -/
def b612 : Fd := ⟨4, 6, (.cons (.expr (.call 140 (.cons (.var 0 "table") (.cons (.var 1 "size") (.cons (.var 2 "rows") (.cons (.var 3 "history") .nil)))))) (.cons (.ret (.bi .len (.comp [("page", 4), ("got", 5)] (.tp [(4, "page"), (5, "got")]) (.seq (.call 608 (.cons (.var 0 "table") (.cons (.var 1 "size") (.cons (.var 2 "rows") (.cons (.var 3 "history") .nil)))))) (.yes (.cmp .eq (.var 5 "got") (.cst (.int 0)))) (.cst (.int 1))))) .nil))⟩
/-- still_in -/
def b614 : Fd := ⟨3, 4, (.cons (.set 3 "many" (.call 150 (.cons (.var 0 "table") (.cons (.var 1 "size") (.cons (.call 93 (.cons (.var 2 "rows") .nil)) .nil))))) (.frz 3 (.cons (.ife (.cmp .is (.var 3 "many") (.cst .none)) (.cons (.ret (.cst .none)) .nil) .nil) (.cons (.ret (.tup (.cons (.var 3 "many") (.cons (.ix (.call 138 (.cons (.var 0 "table") (.cons (.var 1 "size") (.cons (.var 2 "rows") (.cons (.bin .mul (.tup (.cons (.glob "PAGE" (.tuple [(.str "page")])) .nil)) (.var 3 "many")) .nil))))) (.neg (.cst (.int 1)))) .nil)))) .nil))))⟩
/-- need_still -/
def b615 : Fd := ⟨3, 3, (.cons (.expr (.call 95 (.cons (.var 0 "table") .nil))) (.cons (.expr (.call 85 (.cons (.var 1 "size") .nil))) (.cons (.expr (.call 5 (.cons (.var 2 "rows") .nil))) .nil)))⟩
/-- is_endless -/
def b616 : Fd := ⟨3, 3, (.cons (.expr (.call 615 (.cons (.var 0 "table") (.cons (.var 1 "size") (.cons (.var 2 "rows") .nil))))) (.cons (.ret (.cmp .is (.call 614 (.cons (.var 0 "table") (.cons (.var 1 "size") (.cons (.var 2 "rows") .nil)))) (.cst .none))) .nil))⟩
/-- still_cost -/
def b617 : Fd := ⟨3, 4, (.cons (.expr (.call 615 (.cons (.var 0 "table") (.cons (.var 1 "size") (.cons (.var 2 "rows") .nil))))) (.cons (.set 3 "still" (.call 614 (.cons (.var 0 "table") (.cons (.var 1 "size") (.cons (.var 2 "rows") .nil))))) (.frz 3 (.cons (.ret (.ife (.cmp .isnot (.var 3 "still") (.cst .none)) (.tup (.cons (.ix (.var 3 "still") (.cst (.int 0))) (.cons (.ix (.ix (.var 3 "still") (.cst (.int 1))) (.glob "SENT" (.int 3))) (.cons (.bi .len (.ix (.ix (.var 3 "still") (.cst (.int 1))) (.glob "GOT" (.int 2)))) .nil)))) (.cst .none))) .nil))))⟩
/-- still_missed -/
def b618 : Fd := ⟨3, 5, (.cons (.expr (.call 615 (.cons (.var 0 "table") (.cons (.var 1 "size") (.cons (.var 2 "rows") .nil))))) (.cons (.set 3 "still" (.call 614 (.cons (.var 0 "table") (.cons (.var 1 "size") (.cons (.var 2 "rows") .nil))))) (.frz 3 (.cons (.ret (.ife (.cmp .isnot (.var 3 "still") (.cst .none)) (.bi .tuple (.comp [("own", 4)] (.nm 4 "own") (.seq (.var 2 "rows")) (.yes (.cmp .notin (.var 4 "own") (.ix (.ix (.var 3 "still") (.cst (.int 1))) (.glob "GOT" (.int 2))))) (.var 4 "own"))) (.cst .none))) .nil))))⟩
/-- cost_by_sizes -/
def b619 : Fd := ⟨2, 3, (.cons (.expr (.call 95 (.cons (.var 0 "table") .nil))) (.cons (.expr (.call 5 (.cons (.var 1 "rows") .nil))) (.cons (.ret (.bi .tuple (.comp [("size", 2)] (.nm 2 "size") (.rng2 (.cst (.int 1)) (.bin .add (.glob "SIZE" (.int 3)) (.cst (.int 1)))) .no (.call 617 (.cons (.var 0 "table") (.cons (.var 2 "size") (.cons (.var 1 "rows") .nil))))))) .nil)))⟩
/-- _law_by_ranks -/
def b620 : Fd := ⟨4, 11, (.cons (.ife (.bop false (.cons (.cmp .eq (.var 0 "same") (.cst (.int 1))) (.cons (.cmp .ge (.bi .max (.var 3 "counts")) (.var 2 "size")) .nil))) (.cons (.ret (.cst .none)) .nil) .nil) (.cons (.setP [(4, "many"), (5, "begin"), (6, "pages"), (7, "come")] (.cons (.bi .sum (.var 3 "counts")) (.cons (.cst (.int 0)) (.cons (.cst (.int 0)) (.cons (.cst (.int 0)) .nil))))) (.cons (.whl fuel (.cmp .ge (.bin .sub (.var 4 "many") (.var 5 "begin")) (.var 2 "size")) (.cons (.setP [(6, "pages"), (7, "come")] (.cons (.bin .add (.var 6 "pages") (.cst (.int 1))) (.cons (.bin .add (.var 7 "come") (.var 2 "size")) .nil))) (.cons (.set 8 "ahead" (.comp [("rank", 9)] (.nm 9 "rank") (.rng (.cst (.int 7))) .no (.bi .sum (.sl (.var 3 "counts") .no (.yes (.var 9 "rank")))))) (.frz 8 (.cons (.set 10 "last" (.ix (.comp [("rank", 9)] (.nm 9 "rank") (.rng (.cst (.int 6))) (.yes (.chain .le .lt (.ix (.var 8 "ahead") (.var 9 "rank")) (.bin .sub (.bin .add (.var 5 "begin") (.var 2 "size")) (.cst (.int 1))) (.ix (.var 8 "ahead") (.bin .add (.var 9 "rank") (.cst (.int 1)))))) (.var 9 "rank")) (.cst (.int 0)))) (.cons (.set 5 "begin" (.ife (.cmp .eq (.var 0 "same") (.cst (.int 1))) (.ix (.var 8 "ahead") (.var 10 "last")) (.ix (.var 8 "ahead") (.bin .add (.var 10 "last") (.cst (.int 1)))))) .nil)))))) (.cons (.set 7 "come" (.bin .sub (.bin .add (.var 7 "come") (.var 4 "many")) (.var 5 "begin"))) (.cons (.ret (.tup (.cons (.bin .add (.var 6 "pages") (.cst (.int 1))) (.cons (.var 7 "come") (.cons (.ife (.bop false (.cons (.cmp .eq (.var 0 "same") (.cst (.int 1))) (.cons (.cmp .eq (.var 1 "seen") (.cst (.int 1))) .nil))) (.var 4 "many") (.var 7 "come")) .nil))))) .nil)))))⟩
/-- _law_still -/
def b621 : Fd := ⟨3, 13, (.cons (.setT (.tp [(3, "order"), (4, "mark"), (5, "same"), (6, "view"), (7, "seen"), (8, "gone")]) (.var 0 "table")) (.cons (.set 9 "many" (.bi .len (.var 2 "rows"))) (.cons (.ife (.cmp .lt (.var 9 "many") (.var 1 "size")) (.cons (.ret (.tup (.cons (.cst (.int 1)) (.cons (.var 9 "many") (.cons (.var 9 "many") .nil))))) .nil) .nil) (.cons (.ife (.bop true (.cons (.cmp .eq (.var 4 "mark") (.cst (.int 0))) (.cons (.bop false (.cons (.cmp .eq (.var 5 "same") (.cst (.int 0))) (.cons (.bop true (.cons (.cmp .eq (.var 3 "order") (.cst (.int 0))) (.cons (.cmp .eq (.var 4 "mark") (.cst (.int 2))) .nil))) .nil))) .nil))) (.cons (.ret (.tup (.cons (.bin .add (.bin .fdiv (.var 9 "many") (.var 1 "size")) (.cst (.int 1))) (.cons (.var 9 "many") (.cons (.var 9 "many") .nil))))) .nil) .nil) (.cons (.ife (.bop true (.cons (.cmp .eq (.var 3 "order") (.cst (.int 0))) (.cons (.cmp .eq (.var 4 "mark") (.cst (.int 2))) .nil))) (.cons (.ife (.cmp .eq (.var 1 "size") (.cst (.int 1))) (.cons (.ret (.cst .none)) .nil) .nil) (.cons (.set 10 "pages" (.bin .add (.bin .fdiv (.bin .sub (.var 9 "many") (.var 1 "size")) (.bin .sub (.var 1 "size") (.cst (.int 1)))) (.cst (.int 2)))) (.cons (.ret (.tup (.cons (.var 10 "pages") (.cons (.bin .sub (.bin .add (.var 9 "many") (.var 10 "pages")) (.cst (.int 1))) (.cons (.ife (.cmp .eq (.var 7 "seen") (.cst (.int 1))) (.var 9 "many") (.bin .sub (.bin .add (.var 9 "many") (.var 10 "pages")) (.cst (.int 1)))) .nil))))) .nil))) .nil) (.cons (.ret (.call 620 (.cons (.var 5 "same") (.cons (.var 7 "seen") (.cons (.var 1 "size") (.cons (.comp [("rank", 12)] (.nm 12 "rank") (.rng (.cst (.int 6))) .no (.bi .len (.comp [("row", 11)] (.nm 11 "row") (.seq (.var 2 "rows")) (.yes (.cmp .eq (.ix (.var 11 "row") (.cst (.int 1))) (.var 12 "rank"))) (.cst (.int 1))))) .nil)))))) .nil))))))⟩
/-- has_words -/
def b626 : Fd := ⟨3, 4, (.cons (.ret (.bi .all (.comp [("word", 3)] (.nm 3 "word") (.seq (.var 2 "words")) .no (.call 188 (.cons (.var 0 "table") (.cons (.var 1 "size") (.cons (.var 3 "word") .nil))))))) .nil)⟩
/-- priced_in -/
def b627 : Fd := ⟨3, 6, (.cons (.set 3 "found" (.lst .nil)) (.cons (.forS (.nm 4 "table") (.seq (.call 101 .nil)) (.cons (.set 5 "still" (.ife (.call 626 (.cons (.var 4 "table") (.cons (.var 0 "size") (.cons (.var 2 "words") .nil)))) (.call 614 (.cons (.var 4 "table") (.cons (.var 0 "size") (.cons (.var 1 "rows") .nil)))) (.cst .none))) (.frz 5 (.cons (.ife (.cmp .isnot (.var 5 "still") (.cst .none)) (.cons (.app 3 "found" (.tup (.cons (.ix (.var 5 "still") (.cst (.int 0))) (.cons (.var 4 "table") .nil)))) .nil) .nil) .nil)))) (.cons (.ret (.var 3 "found")) .nil)))⟩
/-- need_words -/
def b628 : Fd := ⟨3, 4, (.cons (.expr (.call 85 (.cons (.var 0 "size") .nil))) (.cons (.expr (.call 5 (.cons (.var 1 "rows") .nil))) (.cons (.forS (.nm 3 "word") (.seq (.ife (.bi (.isi .tuple) (.var 2 "words")) (.var 2 "words") (.tup (.cons (.cst .none) .nil)))) (.cons (.expr (.call 164 (.cons (.var 3 "word") .nil))) .nil)) .nil)))⟩
/-- least_pages -/
def b629 : Fd := ⟨3, 6, (.cons (.expr (.call 628 (.cons (.var 0 "size") (.cons (.var 1 "rows") (.cons (.var 2 "words") .nil))))) (.cons (.set 3 "prices" (.comp [("many", 4), ("table", 5)] (.tp [(4, "many"), (5, "table")]) (.seq (.call 627 (.cons (.var 0 "size") (.cons (.var 1 "rows") (.cons (.var 2 "words") .nil))))) .no (.var 4 "many"))) (.frz 3 (.cons (.ret (.ife (.cmp .ne (.var 3 "prices") (.lst .nil)) (.bi .min (.var 3 "prices")) (.cst .none))) .nil))))⟩
/-- cheapest_tables -/
def b630 : Fd := ⟨3, 7, (.cons (.expr (.call 628 (.cons (.var 0 "size") (.cons (.var 1 "rows") (.cons (.var 2 "words") .nil))))) (.cons (.set 3 "priced" (.call 627 (.cons (.var 0 "size") (.cons (.var 1 "rows") (.cons (.var 2 "words") .nil))))) (.frz 3 (.cons (.set 4 "least" (.ife (.cmp .ne (.var 3 "priced") (.lst .nil)) (.bi .min (.comp [("many", 5), ("table", 6)] (.tp [(5, "many"), (6, "table")]) (.seq (.var 3 "priced")) .no (.var 5 "many"))) (.cst (.int 0)))) (.cons (.ret (.bi .tuple (.comp [("many", 5), ("table", 6)] (.tp [(5, "many"), (6, "table")]) (.seq (.var 3 "priced")) (.yes (.cmp .eq (.var 5 "many") (.var 4 "least"))) (.var 6 "table")))) .nil)))))⟩
/-- fits_blocks -/
def b635 : Fd := ⟨1, 2, (.cons (.ife (.bop true (.cons (.notE (.call 0 (.cons (.var 0 "value") (.cons (.glob "RANKS" (.int 6)) (.cons (.glob "RANKS" (.int 6)) .nil))))) (.cons (.notE (.bi .all (.comp [("own", 1)] (.nm 1 "own") (.seq (.var 0 "value")) .no (.call 1 (.cons (.var 1 "own") (.cons (.cst (.int 0)) (.cons (.glob "KEYS" (.int 10)) .nil))))))) .nil))) (.cons (.ret (.cst (.bool false))) .nil) .nil) (.cons (.ret (.cmp .le (.bi .sum (.var 0 "value")) (.glob "KEYS" (.int 10)))) .nil))⟩
/-- ranks_in -/
def b636 : Fd := ⟨1, 4, (.cons (.set 1 "found" (.lst .nil)) (.cons (.forS (.tp [(2, "rank"), (3, "many")]) (.enum (.var 0 "blocks")) (.cons (.aug 1 "found" false (.bin .mul (.lst (.cons (.var 2 "rank") .nil)) (.var 3 "many"))) .nil)) (.cons (.ret (.var 1 "found")) .nil)))⟩
/-- need_blocks -/
def b637 : Fd := ⟨1, 1, (.cons (.ife (.notE (.call 635 (.cons (.var 0 "value") .nil))) (.cons (.raise 2) .nil) .nil) .nil)⟩
/-- blocks_of -/
def b640 : Fd := ⟨1, 3, (.cons (.expr (.call 5 (.cons (.var 0 "rows") .nil))) (.cons (.ret (.bi .tuple (.comp [("rank", 2)] (.nm 2 "rank") (.rng (.glob "RANKS" (.int 6))) .no (.bi .len (.comp [("own", 1)] (.nm 1 "own") (.seq (.var 0 "rows")) (.yes (.cmp .eq (.ix (.var 1 "own") (.glob "RANK" (.int 1))) (.var 2 "rank"))) (.var 1 "own")))))) .nil))⟩
/-- _law_blocks -/
def b641 : Fd := ⟨1, 5, (.cons (.setP [(1, "found"), (2, "left")] (.cons (.lst .nil) (.cons (.cst (.int 10)) .nil))) (.cons (.forS (.nm 3 "rank") (.rng (.cst (.int 6))) (.cons (.set 4 "many" (.ife (.cmp .gt (.call 18 (.cons (.var 0 "cup") (.cons (.cst (.int 3)) .nil))) (.cst (.int 0))) (.call 18 (.cons (.var 0 "cup") (.cons (.bin .add (.mx false (.var 2 "left") (.cst (.int 3))) (.cst (.int 1))) .nil))) (.cst (.int 0)))) (.frz 4 (.cons (.app 1 "found" (.var 4 "many")) (.cons (.set 2 "left" (.bin .sub (.var 2 "left") (.var 4 "many"))) .nil))))) (.frz 1 (.cons (.ret (.bi .tuple (.var 1 "found"))) .nil))))⟩
/-- is_plain -/
def b645 : Fd := ⟨1, 1, (.cons (.ret (.bop true (.cons (.cmp .eq (.ix (.var 0 "table") (.glob "MARK" (.int 1))) (.cst (.int 0))) (.cons (.bop false (.cons (.cmp .eq (.ix (.var 0 "table") (.glob "SAME" (.int 2))) (.cst (.int 0))) (.cons (.bop true (.cons (.cmp .eq (.ix (.var 0 "table") (.glob "ORDER" (.int 0))) (.glob "BY_KEY" (.int 0))) (.cons (.cmp .eq (.ix (.var 0 "table") (.glob "MARK" (.int 1))) (.cst (.int 2))) .nil))) .nil))) .nil)))) .nil)⟩
/-- stays_in -/
def b646 : Fd := ⟨3, 3, (.cons (.ife (.bop true (.cons (.cmp .eq (.ix (.var 0 "table") (.glob "MARK" (.int 1))) (.cst (.int 0))) (.cons (.cmp .eq (.ix (.var 0 "table") (.glob "SAME" (.int 2))) (.cst (.int 0))) .nil))) (.cons (.ret (.cst (.bool false))) .nil) .nil) (.cons (.ife (.bop true (.cons (.cmp .eq (.ix (.var 0 "table") (.glob "ORDER" (.int 0))) (.glob "BY_KEY" (.int 0))) (.cons (.cmp .eq (.ix (.var 0 "table") (.glob "MARK" (.int 1))) (.cst (.int 2))) .nil))) (.cons (.ret (.bop false (.cons (.cmp .eq (.var 1 "size") (.cst (.int 1))) (.cons (.cmp .gt (.bi .sum (.var 2 "blocks")) (.cst (.int 0))) .nil)))) .nil) .nil) (.cons (.ret (.cmp .ge (.bi .max (.var 2 "blocks")) (.var 1 "size"))) .nil)))⟩
/-- behind_ranks -/
def b647 : Fd := ⟨2, 6, (.cons (.setP [(2, "found"), (3, "left")] (.cons (.lst .nil) (.cons (.cst (.int 0)) .nil))) (.cons (.forS (.nm 4 "many") (.seq (.var 1 "blocks")) (.cons (.set 3 "left" (.ife (.cmp .eq (.var 3 "left") (.cst (.int 0))) (.var 0 "size") (.var 3 "left"))) (.cons (.set 5 "come" (.mx false (.var 4 "many") (.var 3 "left"))) (.cons (.app 2 "found" (.var 5 "come")) (.cons (.aug 3 "left" true (.var 5 "come")) .nil))))) (.cons (.ret (.var 2 "found")) .nil)))⟩
/-- got_in -/
def b648 : Fd := ⟨3, 3, (.cons (.ife (.call 646 (.cons (.var 0 "table") (.cons (.var 1 "size") (.cons (.var 2 "blocks") .nil)))) (.cons (.ret (.cst .none)) .nil) .nil) (.cons (.ife (.bop true (.cons (.call 645 (.cons (.var 0 "table") .nil)) (.cons (.cmp .eq (.ix (.var 0 "table") (.glob "SAME" (.int 2))) (.cst (.int 1))) .nil))) (.cons (.ret (.bi .list (.var 2 "blocks"))) .nil) .nil) (.cons (.ret (.call 647 (.cons (.var 1 "size") (.cons (.var 2 "blocks") .nil)))) .nil)))⟩
/-- need_read -/
def b649 : Fd := ⟨3, 3, (.cons (.expr (.call 95 (.cons (.var 0 "table") .nil))) (.cons (.expr (.call 85 (.cons (.var 1 "size") .nil))) (.cons (.expr (.call 637 (.cons (.var 2 "blocks") .nil))) .nil)))⟩
/-- is_over_once -/
def b650 : Fd := ⟨3, 3, (.cons (.expr (.call 649 (.cons (.var 0 "table") (.cons (.var 1 "size") (.cons (.var 2 "blocks") .nil))))) (.cons (.ret (.notE (.call 646 (.cons (.var 0 "table") (.cons (.var 1 "size") (.cons (.var 2 "blocks") .nil)))))) .nil))⟩
/-- got_of_blocks -/
def b651 : Fd := ⟨3, 4, (.cons (.expr (.call 649 (.cons (.var 0 "table") (.cons (.var 1 "size") (.cons (.var 2 "blocks") .nil))))) (.cons (.set 3 "found" (.call 648 (.cons (.var 0 "table") (.cons (.var 1 "size") (.cons (.var 2 "blocks") .nil))))) (.frz 3 (.cons (.ret (.ife (.cmp .isnot (.var 3 "found") (.cst .none)) (.bi .tuple (.var 3 "found")) (.cst .none))) .nil))))⟩
/-- sizes_missing -/
def b652 : Fd := ⟨2, 5, (.cons (.expr (.call 95 (.cons (.var 0 "table") .nil))) (.cons (.expr (.call 637 (.cons (.var 1 "blocks") .nil))) (.cons (.set 2 "told" (.comp [("size", 3)] (.nm 3 "size") (.rng2 (.cst (.int 1)) (.bin .add (.glob "SIZE" (.int 3)) (.cst (.int 1)))) .no (.tup (.cons (.var 3 "size") (.cons (.call 648 (.cons (.var 0 "table") (.cons (.var 3 "size") (.cons (.var 1 "blocks") .nil)))) .nil))))) (.frz 2 (.cons (.ret (.bi .tuple (.comp [("size", 3), ("own", 4)] (.tp [(3, "size"), (4, "own")]) (.seq (.var 2 "told")) (.yes (.bop false (.cons (.cmp .isnot (.var 4 "own") (.cst .none)) (.cons (.cmp .ne (.var 4 "own") (.bi .list (.var 1 "blocks"))) .nil)))) (.var 3 "size")))) .nil)))))⟩
/-- fits_pattern -/
def b656 : Fd := ⟨1, 3, (.cons (.ife (.notE (.call 0 (.cons (.var 0 "value") (.cons (.bi .len (.glob "MOST" (.tuple [(.int 1), (.int 2), (.int 1), (.int 1), (.int 1), (.int 2)]))) (.cons (.bi .len (.glob "MOST" (.tuple [(.int 1), (.int 2), (.int 1), (.int 1), (.int 1), (.int 2)]))) .nil))))) (.cons (.ret (.cst (.bool false))) .nil) .nil) (.cons (.ret (.bi .all (.comp [("own", 1), ("most", 2)] (.tp [(1, "own"), (2, "most")]) (.zip (.var 0 "value") (.glob "MOST" (.tuple [(.int 1), (.int 2), (.int 1), (.int 1), (.int 1), (.int 2)]))) .no (.call 1 (.cons (.var 1 "own") (.cons (.glob "ANY" (.int (-1))) (.cons (.var 2 "most") .nil))))))) .nil))⟩
/-- tables_in -/
def b658 : Fd := ⟨1, 6, (.cons (.set 1 "found" (.lst (.cons (.tup .nil) .nil))) (.frz 1 (.cons (.forS (.tp [(2, "own"), (3, "most")]) (.zip (.var 0 "pattern") (.glob "MOST" (.tuple [(.int 1), (.int 2), (.int 1), (.int 1), (.int 1), (.int 2)]))) (.cons (.set 1 "found" (.comp2 [("row", 4), ("value", 5)] [5] (.nm 4 "row") (.seq (.var 1 "found")) .no (.nm 5 "value") (.seq (.call 657 (.cons (.var 2 "own") (.cons (.var 3 "most") .nil)))) .no (.bin .add (.var 4 "row") (.tup (.cons (.var 5 "value") .nil))))) .nil)) (.cons (.ret (.var 1 "found")) .nil))))⟩
/-- within_in -/
def b659 : Fd := ⟨2, 4, (.cons (.ret (.bi .all (.comp [("own", 2), ("far", 3)] (.tp [(2, "own"), (3, "far")]) (.zip (.var 0 "one") (.var 1 "other")) .no (.cmp .in_ (.var 3 "far") (.tup (.cons (.glob "ANY" (.int (-1))) (.cons (.var 2 "own") .nil))))))) .nil)⟩
/-- wider_in -/
def b660 : Fd := ⟨1, 3, (.cons (.ret (.comp [("at", 1), ("own", 2)] (.tp [(1, "at"), (2, "own")]) (.enum (.var 0 "pattern")) (.yes (.cmp .ne (.var 2 "own") (.glob "ANY" (.int (-1))))) (.bin .add (.bin .add (.sl (.var 0 "pattern") .no (.yes (.var 1 "at"))) (.tup (.cons (.glob "ANY" (.int (-1))) .nil))) (.sl (.var 0 "pattern") (.yes (.bin .add (.var 1 "at") (.cst (.int 1)))) .no)))) .nil)⟩
/-- all_patterns -/
def b661 : Fd := ⟨0, 4, (.cons (.set 0 "found" (.lst (.cons (.tup .nil) .nil))) (.frz 0 (.cons (.forS (.nm 1 "most") (.seq (.glob "MOST" (.tuple [(.int 1), (.int 2), (.int 1), (.int 1), (.int 1), (.int 2)]))) (.cons (.set 0 "found" (.comp2 [("row", 2), ("value", 3)] [3] (.nm 2 "row") (.seq (.var 0 "found")) .no (.nm 3 "value") (.rng2 (.glob "ANY" (.int (-1))) (.bin .add (.var 1 "most") (.cst (.int 1)))) .no (.bin .add (.var 2 "row") (.tup (.cons (.var 3 "value") .nil))))) .nil)) (.cons (.ret (.var 0 "found")) .nil))))⟩
/-- need_pattern -/
def b663 : Fd := ⟨1, 1, (.cons (.ife (.notE (.call 656 (.cons (.var 0 "value") .nil))) (.cons (.raise 7) .nil) .nil) .nil)⟩
/-- pattern_tables -/
def b665 : Fd := ⟨1, 1, (.cons (.expr (.call 663 (.cons (.var 0 "pattern") .nil))) (.cons (.ret (.bi .tuple (.call 658 (.cons (.var 0 "pattern") .nil)))) .nil))⟩
/-- is_within -/
def b666 : Fd := ⟨2, 2, (.cons (.expr (.call 663 (.cons (.var 0 "one") .nil))) (.cons (.expr (.call 663 (.cons (.var 1 "other") .nil))) (.cons (.ret (.call 659 (.cons (.var 0 "one") (.cons (.var 1 "other") .nil)))) .nil)))⟩
/-- words_of_pattern -/
def b669 : Fd := ⟨2, 4, (.cons (.expr (.call 663 (.cons (.var 0 "pattern") .nil))) (.cons (.expr (.call 85 (.cons (.var 1 "size") .nil))) (.cons (.ret (.bi .tuple (.comp [("word", 2)] (.nm 2 "word") (.seq (.glob "WORDS" (.tuple [(.str "ends"), (.str "all"), (.str "kept"), (.str "once"), (.str "rising"), (.str "true"), (.str "one")]))) (.yes (.bi .all (.comp [("own", 3)] (.nm 3 "own") (.seq (.call 658 (.cons (.var 0 "pattern") .nil))) .no (.call 188 (.cons (.var 3 "own") (.cons (.var 1 "size") (.cons (.var 2 "word") .nil))))))) (.var 2 "word")))) .nil)))⟩
/-- greatest_patterns -/
def b670 : Fd := ⟨2, 5, (.cons (.expr (.call 85 (.cons (.var 0 "size") .nil))) (.cons (.expr (.call 164 (.cons (.var 1 "word") .nil))) (.cons (.set 2 "good" (.call 662 (.cons (.var 0 "size") (.cons (.var 1 "word") .nil)))) (.frz 2 (.cons (.ret (.bi .tuple (.comp [("own", 3)] (.nm 3 "own") (.seq (.var 2 "good")) (.yes (.notE (.bi .any (.comp [("wide", 4)] (.nm 4 "wide") (.seq (.call 660 (.cons (.var 3 "own") .nil))) .no (.cmp .in_ (.var 4 "wide") (.var 2 "good")))))) (.var 3 "own")))) .nil)))))⟩
/-- first_in -/
def b679 : Fd := ⟨4, 5, (.cons (.forS (.nm 4 "own") (.seq (.call 12 (.cons (.ix (.var 3 "breach") (.cst (.int 0))) (.cons (.ix (.var 3 "breach") (.cst (.int 1))) .nil)))) (.cons (.ife (.call 218 (.cons (.var 0 "table") (.cons (.var 1 "size") (.cons (.var 2 "word") (.cons (.var 4 "own") .nil))))) (.cons (.ret (.var 4 "own")) .nil) .nil) .nil)) (.cons (.ret (.cst .none)) .nil))⟩
/-- way_in -/
def b680 : Fd := ⟨4, 6, (.cons (.setP [(4, "found"), (5, "here")] (.cons (.lst .nil) (.cons (.var 3 "breach") .nil))) (.cons (.whl fuel (.cmp .isnot (.var 5 "here") (.cst .none)) (.cons (.app 4 "found" (.var 5 "here")) (.cons (.set 5 "here" (.call 679 (.cons (.var 0 "table") (.cons (.var 1 "size") (.cons (.var 2 "word") (.cons (.var 5 "here") .nil)))))) .nil))) (.cons (.ret (.var 4 "found")) .nil)))⟩
/-- need_shown -/
def b681 : Fd := ⟨4, 4, (.cons (.expr (.call 95 (.cons (.var 0 "table") .nil))) (.cons (.expr (.call 85 (.cons (.var 1 "size") .nil))) (.cons (.expr (.call 164 (.cons (.var 2 "word") .nil))) (.cons (.ife (.notE (.call 218 (.cons (.var 0 "table") (.cons (.var 1 "size") (.cons (.var 2 "word") (.cons (.var 3 "breach") .nil)))))) (.cons (.raise 2) .nil) .nil) .nil))))⟩
/-- first_shrink -/
def b682 : Fd := ⟨4, 4, (.cons (.expr (.call 681 (.cons (.var 0 "table") (.cons (.var 1 "size") (.cons (.var 2 "word") (.cons (.var 3 "breach") .nil)))))) (.cons (.ret (.call 679 (.cons (.var 0 "table") (.cons (.var 1 "size") (.cons (.var 2 "word") (.cons (.var 3 "breach") .nil)))))) .nil))⟩
/-- is_tight -/
def b683 : Fd := ⟨4, 4, (.cons (.expr (.call 681 (.cons (.var 0 "table") (.cons (.var 1 "size") (.cons (.var 2 "word") (.cons (.var 3 "breach") .nil)))))) (.cons (.ret (.cmp .is (.call 679 (.cons (.var 0 "table") (.cons (.var 1 "size") (.cons (.var 2 "word") (.cons (.var 3 "breach") .nil))))) (.cst .none))) .nil))⟩
/-- shrink_way -/
def b684 : Fd := ⟨4, 4, (.cons (.expr (.call 681 (.cons (.var 0 "table") (.cons (.var 1 "size") (.cons (.var 2 "word") (.cons (.var 3 "breach") .nil)))))) (.cons (.ret (.bi .tuple (.call 680 (.cons (.var 0 "table") (.cons (.var 1 "size") (.cons (.var 2 "word") (.cons (.var 3 "breach") .nil))))))) .nil))⟩
/-- shrunk -/
def b685 : Fd := ⟨4, 4, (.cons (.expr (.call 681 (.cons (.var 0 "table") (.cons (.var 1 "size") (.cons (.var 2 "word") (.cons (.var 3 "breach") .nil)))))) (.cons (.ret (.ix (.call 680 (.cons (.var 0 "table") (.cons (.var 1 "size") (.cons (.var 2 "word") (.cons (.var 3 "breach") .nil))))) (.neg (.cst (.int 1))))) .nil))⟩
/-- _law_breach -/
def b686 : Fd := ⟨2, 10, (.cons (.forS (.nm 2 "turn") (.rng (.cst (.int 4))) (.cons (.setP [(3, "table"), (4, "size"), (5, "rows"), (6, "history")] (.cons (.call 102 (.cons (.var 0 "cup") .nil)) (.cons (.bin .add (.cst (.int 1)) (.call 18 (.cons (.var 0 "cup") (.cons (.cst (.int 3)) .nil)))) (.cons (.call 21 (.cons (.var 0 "cup") (.cons (.cst (.int 5)) .nil))) (.cons (.call 23 (.cons (.var 0 "cup") (.cons (.var 1 "many") .nil))) .nil))))) (.frz 3 (.frz 4 (.frz 5 (.frz 6 (.cons (.set 7 "words" (.tup (.cons (.cst (.str "ends")) (.cons (.cst (.str "all")) (.cons (.cst (.str "kept")) (.cons (.cst (.str "once")) (.cons (.cst (.str "rising")) (.cons (.cst (.str "true")) (.cons (.cst (.str "one")) .nil))))))))) (.cons (.set 8 "broken" (.comp [("word", 9)] (.nm 9 "word") (.seq (.var 7 "words")) (.yes (.cmp .is (.call 165 (.cons (.var 3 "table") (.cons (.var 4 "size") (.cons (.var 5 "rows") (.cons (.var 6 "history") (.cons (.var 9 "word") .nil)))))) (.cst (.bool false)))) (.var 9 "word"))) (.frz 8 (.cons (.ife (.cmp .ne (.var 8 "broken") (.lst .nil)) (.cons (.ret (.tup (.cons (.var 3 "table") (.cons (.var 4 "size") (.cons (.call 19 (.cons (.var 0 "cup") (.cons (.var 8 "broken") .nil))) (.cons (.tup (.cons (.var 5 "rows") (.cons (.var 6 "history") .nil))) .nil)))))) .nil) .nil) .nil)))))))))) (.cons (.ret (.tup (.cons (.bin .mul (.tup (.cons (.cst (.int 0)) .nil)) (.cst (.int 6))) (.cons (.cst (.int 1)) (.cons (.cst (.str "all")) (.cons (.tup (.cons (.tup (.cons (.tup (.cons (.cst (.int 0)) (.cons (.cst (.int 0)) .nil))) (.cons (.tup (.cons (.cst (.int 1)) (.cons (.cst (.int 1)) .nil))) .nil))) (.cons (.tup (.cons (.tup (.cons (.cst (.str "page")) .nil)) (.cons (.tup (.cons (.cst (.str "drop")) (.cons (.cst (.int 0)) .nil))) (.cons (.tup (.cons (.cst (.str "page")) .nil)) .nil)))) .nil))) .nil)))))) .nil))⟩
/-- _law_lesser -/
def b687 : Fd := ⟨4, 5, (.cons (.ret (.comp [("own", 4)] (.nm 4 "own") (.seq (.call 24 (.cons (.ix (.var 3 "breach") (.cst (.int 0))) (.cons (.ix (.var 3 "breach") (.cst (.int 1))) .nil)))) (.yes (.cmp .is (.call 165 (.cons (.var 0 "table") (.cons (.var 1 "size") (.cons (.ix (.var 4 "own") (.cst (.int 0))) (.cons (.ix (.var 4 "own") (.cst (.int 1))) (.cons (.var 2 "word") .nil)))))) (.cst (.bool false)))) (.var 4 "own"))) .nil)⟩
/-- is_shrink_way -/
def b691 : Fd := ⟨4, 7, (.cons (.expr (.call 95 (.cons (.var 0 "table") .nil))) (.cons (.expr (.call 85 (.cons (.var 1 "size") .nil))) (.cons (.expr (.call 164 (.cons (.var 2 "word") .nil))) (.cons (.ife (.bop true (.cons (.notE (.call 0 (.cons (.var 3 "value") (.cons (.cst (.int 1)) (.cons (.cst (.int 500)) .nil))))) (.cons (.notE (.bi .all (.comp [("own", 4)] (.nm 4 "own") (.seq (.var 3 "value")) .no (.call 218 (.cons (.var 0 "table") (.cons (.var 1 "size") (.cons (.var 2 "word") (.cons (.var 4 "own") .nil)))))))) .nil))) (.cons (.ret (.cst (.bool false))) .nil) .nil) (.cons (.ife (.notE (.bi .all (.comp [("one", 5), ("other", 6)] (.tp [(5, "one"), (6, "other")]) (.zip (.var 3 "value") (.sl (.var 3 "value") (.yes (.cst (.int 1))) .no)) .no (.cmp .in_ (.var 6 "other") (.call 12 (.cons (.ix (.var 5 "one") (.cst (.int 0))) (.cons (.ix (.var 5 "one") (.cst (.int 1))) .nil))))))) (.cons (.ret (.cst (.bool false))) .nil) .nil) (.cons (.ret (.cmp .is (.call 679 (.cons (.var 0 "table") (.cons (.var 1 "size") (.cons (.var 2 "word") (.cons (.ix (.var 3 "value") (.neg (.cst (.int 1)))) .nil))))) (.cst .none))) .nil))))))⟩
/-- steps_at -/
def b695 : Fd := ⟨2, 4, (.cons (.ret (.bi .tuple (.comp [("at", 2), ("step", 3)] (.tp [(2, "at"), (3, "step")]) (.enum (.var 0 "history")) (.yes (.cmp .in_ (.var 2 "at") (.var 1 "places"))) (.var 3 "step")))) .nil)⟩
/-- choices -/
def b696 : Fd := ⟨2, 6, (.cons (.set 2 "found" (.lst (.cons (.tup .nil) .nil))) (.frz 2 (.cons (.forS (.nm 3 "turn") (.rng (.var 1 "size")) (.cons (.set 2 "found" (.comp2 [("row", 4), ("own", 5)] [5] (.nm 4 "row") (.seq (.var 2 "found")) .no (.nm 5 "own") (.rng2 (.ife (.cmp .ne (.var 4 "row") (.tup .nil)) (.bin .add (.ix (.var 4 "row") (.neg (.cst (.int 1)))) (.cst (.int 1))) (.cst (.int 0))) (.var 0 "many")) .no (.bin .add (.var 4 "row") (.tup (.cons (.var 5 "own") .nil))))) .nil)) (.cons (.ret (.var 2 "found")) .nil))))⟩
/-- fewest_in -/
def b697 : Fd := ⟨4, 8, (.cons (.setT (.tp [(4, "rows"), (5, "history")]) (.var 3 "breach")) (.cons (.forS (.nm 6 "many") (.rng (.bi .len (.var 5 "history"))) (.cons (.forS (.nm 7 "places") (.seq (.call 696 (.cons (.bi .len (.var 5 "history")) (.cons (.var 6 "many") .nil)))) (.cons (.ife (.call 218 (.cons (.var 0 "table") (.cons (.var 1 "size") (.cons (.var 2 "word") (.cons (.tup (.cons (.var 4 "rows") (.cons (.call 695 (.cons (.var 5 "history") (.cons (.var 7 "places") .nil))) .nil))) .nil))))) (.cons (.ret (.tup (.cons (.var 4 "rows") (.cons (.call 695 (.cons (.var 5 "history") (.cons (.var 7 "places") .nil))) .nil)))) .nil) .nil) .nil)) .nil)) (.cons (.ret (.var 3 "breach")) .nil)))⟩
/-- needed_steps -/
def b698 : Fd := ⟨4, 9, (.cons (.expr (.call 681 (.cons (.var 0 "table") (.cons (.var 1 "size") (.cons (.var 2 "word") (.cons (.var 3 "breach") .nil)))))) (.cons (.setT (.tp [(4, "rows"), (5, "history")]) (.var 3 "breach")) (.cons (.set 6 "told" (.comp [("at", 7)] (.nm 7 "at") (.rng (.bi .len (.var 5 "history"))) .no (.call 218 (.cons (.var 0 "table") (.cons (.var 1 "size") (.cons (.var 2 "word") (.cons (.tup (.cons (.var 4 "rows") (.cons (.call 10 (.cons (.var 5 "history") (.cons (.var 7 "at") .nil))) .nil))) .nil))))))) (.frz 6 (.cons (.ret (.bi .tuple (.comp [("at", 7), ("good", 8)] (.tp [(7, "at"), (8, "good")]) (.enum (.var 6 "told")) (.yes (.notE (.var 8 "good"))) (.var 7 "at")))) .nil)))))⟩
/-- fits_ask -/
def b705 : Fd := ⟨1, 1, (.cons (.ret (.bop false (.cons (.call 0 (.cons (.var 0 "value") (.cons (.cst (.int 2)) (.cons (.cst (.int 2)) .nil)))) (.cons (.cmp .eq (.ix (.var 0 "value") (.cst (.int 0))) (.glob "ASK" (.str "page"))) (.cons (.call 1 (.cons (.ix (.var 0 "value") (.cst (.int 1))) (.cons (.cst (.int 1)) (.cons (.glob "LARGE" (.int 6)) .nil)))) .nil))))) .nil)⟩
/-- fits_sized -/
def b706 : Fd := ⟨1, 2, (.cons (.ret (.bop false (.cons (.call 0 (.cons (.var 0 "value") (.cons (.cst (.int 0)) (.cons (.glob "LONG" (.int 60)) .nil)))) (.cons (.bi .all (.comp [("own", 1)] (.nm 1 "own") (.seq (.var 0 "value")) .no (.bop true (.cons (.call 705 (.cons (.var 1 "own") .nil)) (.cons (.call 4 (.cons (.var 1 "own") .nil)) .nil))))) .nil)))) .nil)⟩
/-- stepped_by -/
def b707 : Fd := ⟨3, 3, (.cons (.ife (.cmp .eq (.ix (.var 2 "step") (.cst (.int 0))) (.glob "ASK" (.str "page"))) (.cons (.ret (.call 108 (.cons (.var 0 "table") (.cons (.ix (.var 2 "step") (.cst (.int 1))) (.cons (.var 1 "reading") .nil))))) .nil) .nil) (.cons (.ret (.call 109 (.cons (.var 1 "reading") (.cons (.var 2 "step") .nil)))) .nil))⟩
/-- readings_in -/
def b708 : Fd := ⟨3, 5, (.cons (.set 3 "found" (.lst (.cons (.call 93 (.cons (.var 1 "rows") .nil)) .nil))) (.cons (.forS (.nm 4 "step") (.seq (.var 2 "history")) (.cons (.app 3 "found" (.call 707 (.cons (.var 0 "table") (.cons (.ix (.var 3 "found") (.neg (.cst (.int 1)))) (.cons (.var 4 "step") .nil))))) .nil)) (.cons (.ret (.var 3 "found")) .nil)))⟩
/-- need_sized -/
def b709 : Fd := ⟨1, 1, (.cons (.ife (.notE (.call 706 (.cons (.var 0 "value") .nil))) (.cons (.raise 1) .nil) .nil) .nil)⟩
/-- is_sized -/
def b710 : Fd := ⟨1, 1, (.cons (.ret (.call 706 (.cons (.var 0 "value") .nil))) .nil)⟩
/-- sized -/
def b711 : Fd := ⟨2, 3, (.cons (.ife (.notE (.call 8 (.cons (.var 0 "history") .nil))) (.cons (.raise 1) .nil) .nil) (.cons (.expr (.call 85 (.cons (.var 1 "size") .nil))) (.cons (.ret (.bi .tuple (.comp [("step", 2)] (.nm 2 "step") (.seq (.var 0 "history")) .no (.ife (.cmp .eq (.var 2 "step") (.glob "PAGE" (.tuple [(.str "page")]))) (.tup (.cons (.glob "ASK" (.str "page")) (.cons (.var 1 "size") .nil))) (.var 2 "step"))))) .nil)))⟩
/-- sizes_asked -/
def b712 : Fd := ⟨1, 2, (.cons (.expr (.call 709 (.cons (.var 0 "history") .nil))) (.cons (.ret (.bi .tuple (.comp [("step", 1)] (.nm 1 "step") (.seq (.var 0 "history")) (.yes (.cmp .eq (.ix (.var 1 "step") (.cst (.int 0))) (.glob "ASK" (.str "page")))) (.ix (.var 1 "step") (.cst (.int 1)))))) .nil))⟩
/-- _law_sized -/
def b715 : Fd := ⟨2, 3, (.cons (.ret (.bi .tuple (.comp [("step", 2)] (.nm 2 "step") (.rng (.var 1 "many")) .no (.ife (.cmp .eq (.call 18 (.cons (.var 0 "cup") (.cons (.cst (.int 2)) .nil))) (.cst (.int 0))) (.tup (.cons (.cst (.str "page")) (.cons (.bin .add (.cst (.int 1)) (.call 18 (.cons (.var 0 "cup") (.cons (.cst (.int 6)) .nil)))) .nil))) (.call 22 (.cons (.var 0 "cup") .nil)))))) .nil)⟩
/-- _law_run -/
def b716 : Fd := ⟨3, 11, (.cons (.setP [(3, "reading"), (4, "now"), (5, "lists"), (6, "pages"), (7, "met"), (8, "last")] (.cons (.call 116 .nil) (.cons (.var 1 "rows") (.cons (.lst (.cons (.var 1 "rows") .nil)) (.cons (.lst .nil) (.cons (.lst .nil) (.cons (.cst (.int 0)) .nil))))))) (.frz 3 (.frz 7 (.cons (.forS (.nm 9 "step") (.seq (.var 2 "history")) (.cons (.ife (.cmp .eq (.ix (.var 9 "step") (.cst (.int 0))) (.cst (.str "page"))) (.cons (.ife (.cmp .eq (.ix (.var 3 "reading") (.cst (.int 4))) (.cst (.int 0))) (.cons (.set 7 "met" (.ife (.cmp .ne (.var 7 "met") (.lst .nil)) (.var 7 "met") (.lst (.cons (.var 4 "now") .nil)))) (.frz 7 (.cons (.setP [(8, "last"), (10, "old")] (.cons (.bi .len (.var 7 "met")) (.cons (.bi .len (.ix (.var 3 "reading") (.cst (.int 1)))) .nil))) (.cons (.set 3 "reading" (.call 118 (.cons (.var 0 "table") (.cons (.ix (.var 9 "step") (.cst (.int 1))) (.cons (.var 4 "now") (.cons (.var 3 "reading") .nil)))))) (.frz 3 (.cons (.app 6 "pages" (.tup (.cons (.var 4 "now") (.cons (.sl (.ix (.var 3 "reading") (.cst (.int 1))) (.yes (.var 10 "old")) .no) .nil)))) .nil)))))) .nil) .nil) (.cons (.set 4 "now" (.call 57 (.cons (.var 4 "now") (.cons (.var 9 "step") .nil)))) (.frz 4 (.cons (.set 7 "met" (.bin .add (.var 7 "met") (.ife (.cmp .ne (.var 7 "met") (.lst .nil)) (.lst (.cons (.var 4 "now") .nil)) (.lst .nil)))) .nil)))) (.cons (.app 5 "lists" (.var 4 "now")) .nil))) (.frz 5 (.frz 6 (.cons (.ret (.tup (.cons (.var 3 "reading") (.cons (.var 5 "lists") (.cons (.var 6 "pages") (.cons (.sl (.var 7 "met") .no (.yes (.var 8 "last"))) .nil)))))) .nil)))))))⟩
/-- ends_by -/
def b721 : Fd := ⟨2, 3, (.cons (.ret (.bi .all (.comp [("size", 2)] (.nm 2 "size") (.rng2 (.cst (.int 1)) (.bin .add (.glob "LARGE" (.int 6)) (.cst (.int 1)))) .no (.cmp .isnot (.call 150 (.cons (.var 0 "table") (.cons (.var 2 "size") (.cons (.var 1 "reading") .nil)))) (.cst .none))))) .nil)⟩
/-- told_by_sizes -/
def b723 : Fd := ⟨2, 3, (.cons (.ret (.bi .all (.comp [("size", 2)] (.nm 2 "size") (.rng2 (.cst (.int 1)) (.bin .add (.glob "SIZE" (.int 3)) (.cst (.int 1)))) .no (.call 188 (.cons (.var 0 "table") (.cons (.var 2 "size") (.cons (.var 1 "word") .nil))))))) .nil)⟩
/-- need_run -/
def b724 : Fd := ⟨3, 3, (.cons (.expr (.call 95 (.cons (.var 0 "table") .nil))) (.cons (.expr (.call 5 (.cons (.var 1 "rows") .nil))) (.cons (.expr (.call 709 (.cons (.var 2 "history") .nil))) .nil)))⟩
/-- sized_words -/
def b725 : Fd := ⟨3, 4, (.cons (.expr (.call 724 (.cons (.var 0 "table") (.cons (.var 1 "rows") (.cons (.var 2 "history") .nil))))) (.cons (.ret (.bi .tuple (.comp [("word", 3)] (.nm 3 "word") (.seq (.glob "WORDS" (.tuple [(.str "ends"), (.str "all"), (.str "kept"), (.str "once"), (.str "rising"), (.str "true"), (.str "one")]))) (.yes (.call 722 (.cons (.var 0 "table") (.cons (.var 1 "rows") (.cons (.var 2 "history") (.cons (.var 3 "word") .nil)))))) (.var 3 "word")))) .nil))⟩
/-- always_sized -/
def b726 : Fd := ⟨2, 2, (.cons (.expr (.call 95 (.cons (.var 0 "table") .nil))) (.cons (.expr (.call 164 (.cons (.var 1 "word") .nil))) (.cons (.ret (.call 723 (.cons (.var 0 "table") (.cons (.var 1 "word") .nil)))) .nil)))⟩
/-- shown_sized -/
def b727 : Fd := ⟨2, 6, (.cons (.expr (.call 95 (.cons (.var 0 "table") .nil))) (.cons (.expr (.call 164 (.cons (.var 1 "word") .nil))) (.cons (.forS (.nm 2 "size") (.rng2 (.cst (.int 1)) (.bin .add (.glob "SIZE" (.int 3)) (.cst (.int 1)))) (.cons (.ife (.notE (.call 188 (.cons (.var 0 "table") (.cons (.var 2 "size") (.cons (.var 1 "word") .nil))))) (.cons (.setT (.tp [(3, "rows"), (4, "history")]) (.call 217 (.cons (.var 0 "table") (.cons (.var 2 "size") (.cons (.var 1 "word") .nil))))) (.cons (.ret (.tup (.cons (.var 3 "rows") (.cons (.bi .tuple (.comp [("step", 5)] (.nm 5 "step") (.seq (.var 4 "history")) .no (.ife (.cmp .eq (.var 5 "step") (.glob "PAGE" (.tuple [(.str "page")]))) (.tup (.cons (.glob "ASK" (.str "page")) (.cons (.var 2 "size") .nil))) (.var 5 "step")))) .nil)))) .nil)) .nil) .nil)) (.cons (.ret (.cst .none)) .nil))))⟩
/-- is_smooth_in -/
def b731 : Fd := ⟨1, 1, (.cons (.ret (.bop true (.cons (.cmp .eq (.ix (.var 0 "table") (.glob "MARK" (.int 1))) (.cst (.int 0))) (.cons (.bop false (.cons (.cmp .eq (.ix (.var 0 "table") (.glob "SAME" (.int 2))) (.cst (.int 0))) (.cons (.bop true (.cons (.cmp .eq (.ix (.var 0 "table") (.glob "ORDER" (.int 0))) (.glob "BY_KEY" (.int 0))) (.cons (.cmp .eq (.ix (.var 0 "table") (.glob "MARK" (.int 1))) (.cst (.int 2))) .nil))) .nil))) .nil)))) .nil)⟩
/-- sized_reading -/
def b732 : Fd := ⟨3, 3, (.cons (.expr (.call 724 (.cons (.var 0 "table") (.cons (.var 1 "rows") (.cons (.var 2 "history") .nil))))) (.cons (.ret (.ix (.call 708 (.cons (.var 0 "table") (.cons (.var 1 "rows") (.cons (.var 2 "history") .nil)))) (.neg (.cst (.int 1))))) .nil))⟩
/-- is_smooth_table -/
def b733 : Fd := ⟨1, 1, (.cons (.expr (.call 95 (.cons (.var 0 "table") .nil))) (.cons (.ret (.call 731 (.cons (.var 0 "table") .nil))) .nil))⟩
/-- joined_pages -/
def b735 : Fd := ⟨1, 3, (.cons (.expr (.call 709 (.cons (.var 0 "history") .nil))) (.cons (.set 1 "found" (.lst .nil)) (.cons (.forS (.nm 2 "step") (.seq (.var 0 "history")) (.cons (.ife (.bop false (.cons (.cmp .eq (.ix (.var 2 "step") (.cst (.int 0))) (.glob "ASK" (.str "page"))) (.cons (.cmp .ne (.var 1 "found") (.lst .nil)) (.cons (.cmp .eq (.ix (.ix (.var 1 "found") (.neg (.cst (.int 1)))) (.cst (.int 0))) (.glob "ASK" (.str "page"))) (.cons (.cmp .le (.bin .add (.ix (.ix (.var 1 "found") (.neg (.cst (.int 1)))) (.cst (.int 1))) (.ix (.var 2 "step") (.cst (.int 1)))) (.glob "LARGE" (.int 6))) .nil))))) (.cons (.setIx 1 "found" (.neg (.cst (.int 1))) (.tup (.cons (.glob "ASK" (.str "page")) (.cons (.bin .add (.ix (.ix (.var 1 "found") (.neg (.cst (.int 1)))) (.cst (.int 1))) (.ix (.var 2 "step") (.cst (.int 1)))) .nil)))) .nil) (.cons (.app 1 "found" (.var 2 "step")) .nil)) .nil)) (.frz 1 (.cons (.ret (.bi .tuple (.var 1 "found"))) .nil)))))⟩
/-- page_at -/
def b743 : Fd := ⟨6, 8, (.cons (.set 6 "seen" (.call 31 (.cons (.var 0 "rows") (.cons (.var 1 "lag") (.cons (.var 4 "clock") .nil))))) (.frz 6 (.cons (.set 7 "at" (.ife (.cmp .isnot (.var 5 "last") (.cst .none)) (.call 81 (.cons (.glob "BY_RANK" (.int 1)) (.cons (.var 2 "mark") (.cons (.cst (.int 0)) (.cons (.var 5 "last") (.cons (.var 6 "seen") .nil)))))) (.cst (.int 0)))) (.frz 7 (.cons (.ret (.sl (.call 71 (.cons (.glob "BY_RANK" (.int 1)) (.cons (.var 6 "seen") .nil))) (.yes (.var 7 "at")) (.yes (.bin .add (.var 7 "at") (.var 3 "size"))))) .nil)))))⟩
/-- pages_in -/
def b744 : Fd := ⟨5, 9, (.cons (.setP [(5, "found"), (6, "last")] (.cons (.lst .nil) (.cons (.cst .none) .nil))) (.cons (.forS (.nm 7 "clock") (.seq (.var 4 "polls")) (.cons (.set 8 "page" (.call 743 (.cons (.var 0 "rows") (.cons (.var 1 "lag") (.cons (.var 2 "mark") (.cons (.var 3 "size") (.cons (.var 7 "clock") (.cons (.var 6 "last") .nil)))))))) (.frz 8 (.cons (.set 6 "last" (.ife (.cmp .ne (.var 8 "page") (.tup .nil)) (.ix (.var 8 "page") (.neg (.cst (.int 1)))) (.var 6 "last"))) (.cons (.app 5 "found" (.var 8 "page")) .nil))))) (.cons (.ret (.var 5 "found")) .nil)))⟩
/-- passed_in -/
def b745 : Fd := ⟨3, 5, (.cons (.ife (.cmp .eq (.var 2 "got") (.lst .nil)) (.cons (.ret (.lst .nil)) .nil) .nil) (.cons (.set 3 "due" (.call 80 (.cons (.glob "BY_RANK" (.int 1)) (.cons (.var 1 "mark") (.cons (.ix (.var 2 "got") (.neg (.cst (.int 1)))) .nil))))) (.frz 3 (.cons (.ret (.comp [("row", 4)] (.nm 4 "row") (.seq (.var 0 "rows")) (.yes (.bop false (.cons (.cmp .notin (.sl (.var 4 "row") .no (.yes (.glob "WAIT" (.int 2)))) (.var 2 "got")) (.cons (.cmp .le (.call 80 (.cons (.glob "BY_RANK" (.int 1)) (.cons (.var 1 "mark") (.cons (.sl (.var 4 "row") .no (.yes (.glob "WAIT" (.int 2)))) .nil)))) (.var 3 "due")) .nil)))) (.ix (.var 4 "row") (.glob "KEY" (.int 0))))) .nil))))⟩
/-- need_way -/
def b746 : Fd := ⟨4, 4, (.cons (.expr (.call 32 (.cons (.var 0 "rows") .nil))) (.cons (.expr (.call 33 (.cons (.var 1 "lag") .nil))) (.cons (.ife (.notE (.call 1 (.cons (.var 2 "mark") (.cons (.cst (.int 1)) (.cons (.cst (.int 2)) .nil))))) (.cons (.raise 4) .nil) .nil) (.cons (.expr (.call 85 (.cons (.var 3 "size") .nil))) .nil))))⟩
/-- got_by_polls -/
def b747 : Fd := ⟨5, 5, (.cons (.expr (.call 746 (.cons (.var 0 "rows") (.cons (.var 1 "lag") (.cons (.var 2 "mark") (.cons (.var 3 "size") .nil)))))) (.cons (.expr (.call 34 (.cons (.var 4 "polls") .nil))) (.cons (.ret (.bi .tuple (.call 744 (.cons (.var 0 "rows") (.cons (.var 1 "lag") (.cons (.var 2 "mark") (.cons (.var 3 "size") (.cons (.var 4 "polls") .nil)))))))) .nil)))⟩
/-- keys_passed -/
def b748 : Fd := ⟨5, 8, (.cons (.expr (.call 746 (.cons (.var 0 "rows") (.cons (.var 1 "lag") (.cons (.var 2 "mark") (.cons (.var 3 "size") .nil)))))) (.cons (.expr (.call 34 (.cons (.var 4 "polls") .nil))) (.cons (.set 5 "got" (.comp2 [("page", 6), ("row", 7)] [7] (.nm 6 "page") (.seq (.call 744 (.cons (.var 0 "rows") (.cons (.var 1 "lag") (.cons (.var 2 "mark") (.cons (.var 3 "size") (.cons (.var 4 "polls") .nil))))))) .no (.nm 7 "row") (.seq (.var 6 "page")) .no (.var 7 "row"))) (.frz 5 (.cons (.ret (.bi .tuple (.call 745 (.cons (.var 0 "rows") (.cons (.var 2 "mark") (.cons (.var 5 "got") .nil)))))) .nil)))))⟩
/-- is_passing -/
def b749 : Fd := ⟨5, 8, (.cons (.expr (.call 746 (.cons (.var 0 "rows") (.cons (.var 1 "lag") (.cons (.var 2 "mark") (.cons (.var 3 "size") .nil)))))) (.cons (.ife (.notE (.call 29 (.cons (.var 4 "value") .nil))) (.cons (.ret (.cst (.bool false))) .nil) .nil) (.cons (.set 5 "got" (.comp2 [("page", 6), ("row", 7)] [7] (.nm 6 "page") (.seq (.call 744 (.cons (.var 0 "rows") (.cons (.var 1 "lag") (.cons (.var 2 "mark") (.cons (.var 3 "size") (.cons (.var 4 "value") .nil))))))) .no (.nm 7 "row") (.seq (.var 6 "page")) .no (.var 7 "row"))) (.frz 5 (.cons (.ret (.cmp .ne (.call 745 (.cons (.var 0 "rows") (.cons (.var 2 "mark") (.cons (.var 5 "got") .nil)))) (.lst .nil))) .nil)))))⟩
/-- _law_asked -/
def b750 : Fd := ⟨6, 11, (.cons (.set 6 "seen" (.bi .sorted (.comp [("key", 7), ("stamp", 8), ("wait", 9)] (.tp [(7, "key"), (8, "stamp"), (9, "wait")]) (.seq (.var 0 "rows")) (.yes (.cmp .le (.call 41 (.cons (.tup (.cons (.var 7 "key") (.cons (.var 8 "stamp") (.cons (.var 9 "wait") .nil)))) (.cons (.var 1 "lag") .nil))) (.var 4 "clock"))) (.tup (.cons (.var 8 "stamp") (.cons (.var 7 "key") .nil)))))) (.frz 6 (.cons (.ife (.bop false (.cons (.cmp .isnot (.var 5 "last") (.cst .none)) (.cons (.cmp .eq (.var 2 "mark") (.cst (.int 1))) .nil))) (.cons (.set 6 "seen" (.comp [("own", 10)] (.nm 10 "own") (.seq (.var 6 "seen")) (.yes (.cmp .gt (.ix (.var 10 "own") (.cst (.int 0))) (.ix (.var 5 "last") (.cst (.int 1))))) (.var 10 "own"))) .nil) .nil) (.cons (.ife (.bop false (.cons (.cmp .isnot (.var 5 "last") (.cst .none)) (.cons (.cmp .eq (.var 2 "mark") (.cst (.int 2))) .nil))) (.cons (.set 6 "seen" (.comp [("own", 10)] (.nm 10 "own") (.seq (.var 6 "seen")) (.yes (.cmp .gt (.var 10 "own") (.tup (.cons (.ix (.var 5 "last") (.cst (.int 1))) (.cons (.ix (.var 5 "last") (.cst (.int 0))) .nil))))) (.var 10 "own"))) .nil) .nil) (.cons (.ret (.bi .tuple (.comp [("stamp", 8), ("key", 7)] (.tp [(8, "stamp"), (7, "key")]) (.seq (.sl (.var 6 "seen") .no (.yes (.var 3 "size")))) .no (.tup (.cons (.var 7 "key") (.cons (.var 8 "stamp") .nil)))))) .nil)))))⟩
/-- overtaken_in -/
def b753 : Fd := ⟨2, 6, (.cons (.set 2 "found" (.lst .nil)) (.cons (.forS (.nm 3 "one") (.seq (.var 0 "rows")) (.cons (.forS (.nm 4 "other") (.seq (.var 0 "rows")) (.cons (.set 5 "ahead" (.cmp .lt (.call 70 (.cons (.glob "BY_RANK" (.int 1)) (.cons (.sl (.var 3 "one") .no (.yes (.glob "WAIT" (.int 2)))) .nil))) (.call 70 (.cons (.glob "BY_RANK" (.int 1)) (.cons (.sl (.var 4 "other") .no (.yes (.glob "WAIT" (.int 2)))) .nil))))) (.cons (.ife (.bop false (.cons (.var 5 "ahead") (.cons (.cmp .gt (.call 30 (.cons (.var 3 "one") (.cons (.var 1 "lag") .nil))) (.call 30 (.cons (.var 4 "other") (.cons (.var 1 "lag") .nil)))) .nil))) (.cons (.app 2 "found" (.tup (.cons (.ix (.var 3 "one") (.glob "KEY" (.int 0))) (.cons (.ix (.var 4 "other") (.glob "KEY" (.int 0))) .nil)))) .nil) .nil) .nil))) .nil)) (.cons (.ret (.var 2 "found")) .nil)))⟩
/-- passes_now -/
def b754 : Fd := ⟨4, 7, (.cons (.ife (.cmp .eq (.var 2 "page") (.tup .nil)) (.cons (.ret (.cst (.bool false))) .nil) .nil) (.cons (.set 4 "due" (.call 80 (.cons (.glob "BY_RANK" (.int 1)) (.cons (.var 1 "mark") (.cons (.ix (.var 2 "page") (.neg (.cst (.int 1)))) .nil))))) (.frz 4 (.cons (.set 5 "left" (.comp [("row", 6)] (.nm 6 "row") (.seq (.var 0 "rows")) (.yes (.bop false (.cons (.cmp .notin (.sl (.var 6 "row") .no (.yes (.glob "WAIT" (.int 2)))) (.var 2 "page")) (.cons (.cmp .le (.call 80 (.cons (.glob "BY_RANK" (.int 1)) (.cons (.var 1 "mark") (.cons (.sl (.var 6 "row") .no (.yes (.glob "WAIT" (.int 2)))) .nil)))) (.var 4 "due")) .nil)))) (.sl (.var 6 "row") .no (.yes (.glob "WAIT" (.int 2)))))) (.frz 5 (.cons (.ret (.bi .any (.comp [("row", 6)] (.nm 6 "row") (.seq (.var 5 "left")) .no (.bop true (.cons (.cmp .is (.var 3 "last") (.cst .none)) (.cons (.cmp .gt (.call 80 (.cons (.glob "BY_RANK" (.int 1)) (.cons (.var 1 "mark") (.cons (.var 6 "row") .nil)))) (.call 80 (.cons (.glob "BY_RANK" (.int 1)) (.cons (.var 1 "mark") (.cons (.var 3 "last") .nil))))) .nil)))))) .nil))))))⟩
/-- overtakings -/
def b756 : Fd := ⟨2, 2, (.cons (.expr (.call 32 (.cons (.var 0 "rows") .nil))) (.cons (.expr (.call 33 (.cons (.var 1 "lag") .nil))) (.cons (.ret (.bi .tuple (.call 753 (.cons (.var 0 "rows") (.cons (.var 1 "lag") .nil))))) .nil)))⟩
/-- least_lag -/
def b757 : Fd := ⟨1, 2, (.cons (.expr (.call 32 (.cons (.var 0 "rows") .nil))) (.cons (.ret (.ix (.comp [("lag", 1)] (.nm 1 "lag") (.rng (.glob "WAITS" (.int 6))) (.yes (.cmp .eq (.call 753 (.cons (.var 0 "rows") (.cons (.var 1 "lag") .nil))) (.lst .nil))) (.var 1 "lag")) (.cst (.int 0)))) .nil))⟩
/-- passing_polls -/
def b758 : Fd := ⟨4, 4, (.cons (.expr (.call 746 (.cons (.var 0 "rows") (.cons (.var 1 "lag") (.cons (.var 2 "mark") (.cons (.var 3 "size") .nil)))))) (.cons (.ret (.call 755 (.cons (.var 0 "rows") (.cons (.var 1 "lag") (.cons (.var 2 "mark") (.cons (.var 3 "size") .nil)))))) .nil))⟩
/-- verdict_in -/
def b765 : Fd := ⟨2, 3, (.cons (.ret (.bi .tuple (.comp [("word", 2)] (.nm 2 "word") (.seq (.glob "WORDS" (.tuple [(.str "ends"), (.str "all"), (.str "kept"), (.str "once"), (.str "rising"), (.str "true"), (.str "one")]))) .no (.tup (.cons (.var 2 "word") (.cons (.ife (.call 188 (.cons (.var 0 "table") (.cons (.var 1 "size") (.cons (.var 2 "word") .nil)))) (.cst .none) (.call 217 (.cons (.var 0 "table") (.cons (.var 1 "size") (.cons (.var 2 "word") .nil))))) .nil)))))) .nil)⟩
/-- verdict -/
def b767 : Fd := ⟨2, 2, (.cons (.expr (.call 189 (.cons (.var 0 "table") (.cons (.var 1 "size") .nil)))) (.cons (.ret (.call 765 (.cons (.var 0 "table") (.cons (.var 1 "size") .nil)))) .nil))⟩
/-- need_searched -/
def b771 : Fd := ⟨1, 1, (.cons (.ife (.bop true (.cons (.notE (.bi (.isi .str) (.var 0 "value"))) (.cons (.cmp .notin (.var 0 "value") (.glob "SEARCHED" (.tuple [(.str "ends"), (.str "all"), (.str "kept"), (.str "once"), (.str "rising"), (.str "true")]))) .nil))) (.cons (.raise 3) .nil) .nil) .nil)⟩
/-- mends_in -/
def b776 : Fd := ⟨3, 9, (.cons (.set 3 "found" (.lst .nil)) (.cons (.forS (.tp [(4, "at"), (5, "most")]) (.enum (.glob "MOST" (.tuple [(.int 1), (.int 2), (.int 1), (.int 1), (.int 1), (.int 2)]))) (.cons (.set 6 "others" (.comp [("own", 7)] (.nm 7 "own") (.rng (.bin .add (.var 5 "most") (.cst (.int 1)))) .no (.bin .add (.bin .add (.sl (.var 0 "table") .no (.yes (.var 4 "at"))) (.tup (.cons (.var 7 "own") .nil))) (.sl (.var 0 "table") (.yes (.bin .add (.var 4 "at") (.cst (.int 1)))) .no)))) (.frz 6 (.cons (.ife (.bi .any (.comp [("other", 8)] (.nm 8 "other") (.seq (.var 6 "others")) .no (.call 188 (.cons (.var 8 "other") (.cons (.var 1 "size") (.cons (.var 2 "word") .nil)))))) (.cons (.app 3 "found" (.ix (.glob "NAMES" (.tuple [(.str "order"), (.str "mark"), (.str "same"), (.str "view"), (.str "seen"), (.str "gone")])) (.var 4 "at"))) .nil) .nil) .nil)))) (.cons (.ret (.var 3 "found")) .nil)))⟩
/-- far_in -/
def b777 : Fd := ⟨1, 2, (.cons (.ret (.bi .len (.comp [("own", 1)] (.nm 1 "own") (.seq (.var 0 "table")) (.yes (.cmp .ne (.var 1 "own") (.cst (.int 0)))) (.cst (.int 1))))) .nil)⟩
/-- need_words -/
def b778 : Fd := ⟨1, 2, (.cons (.ife (.notE (.bi (.isi .tuple) (.var 0 "value"))) (.cons (.raise 3) .nil) .nil) (.cons (.forS (.nm 1 "word") (.seq (.var 0 "value")) (.cons (.expr (.call 164 (.cons (.var 1 "word") .nil))) .nil)) .nil))⟩
/-- given_up -/
def b779 : Fd := ⟨2, 3, (.cons (.expr (.call 189 (.cons (.var 0 "table") (.cons (.var 1 "size") .nil)))) (.cons (.ret (.bi .tuple (.comp [("word", 2)] (.nm 2 "word") (.seq (.glob "WORDS" (.tuple [(.str "ends"), (.str "all"), (.str "kept"), (.str "once"), (.str "rising"), (.str "true"), (.str "one")]))) (.yes (.notE (.call 188 (.cons (.var 0 "table") (.cons (.var 1 "size") (.cons (.var 2 "word") .nil)))))) (.tup (.cons (.var 2 "word") (.cons (.bi .tuple (.call 776 (.cons (.var 0 "table") (.cons (.var 1 "size") (.cons (.var 2 "word") .nil))))) .nil)))))) .nil))⟩
/-- can_have -/
def b781 : Fd := ⟨2, 4, (.cons (.expr (.call 85 (.cons (.var 0 "size") .nil))) (.cons (.expr (.call 778 (.cons (.var 1 "words") .nil))) (.cons (.ret (.bi .any (.comp [("table", 3)] (.nm 3 "table") (.seq (.call 101 .nil)) .no (.bi .all (.comp [("word", 2)] (.nm 2 "word") (.seq (.var 1 "words")) .no (.call 188 (.cons (.var 3 "table") (.cons (.var 0 "size") (.cons (.var 2 "word") .nil))))))))) .nil)))⟩
def TL0 : List (Nat × Fd) := [(0, b0), (1, b1), (2, b2), (3, b3), (4, b4), (5, b5), (6, b6), (7, b7), (8, b8), (9, b9), (10, b10), (11, b11), (12, b12), (13, b13), (14, b14), (15, b15)]
def TL1 : List (Nat × Fd) := [(16, b16), (19, b19), (20, b20), (21, b21), (22, b22), (23, b23), (24, b24), (25, b25), (27, b27), (28, b28), (29, b29), (30, b30), (31, b31)]
def TL2 : List (Nat × Fd) := [(32, b32), (33, b33), (34, b34), (37, b37), (38, b38), (39, b39), (40, b40), (41, b41), (42, b42), (47, b47)]
def TL3 : List (Nat × Fd) := [(49, b49), (50, b50), (51, b51), (52, b52), (53, b53), (54, b54), (56, b56), (59, b59), (60, b60), (61, b61), (62, b62), (63, b63)]
def TL4 : List (Nat × Fd) := [(64, b64), (65, b65), (70, b70), (71, b71), (72, b72), (73, b73), (74, b74), (75, b75), (76, b76), (77, b77), (78, b78)]
def TL5 : List (Nat × Fd) := [(80, b80), (81, b81), (82, b82), (83, b83), (85, b85), (86, b86), (87, b87), (92, b92), (93, b93), (94, b94), (95, b95)]
def TL6 : List (Nat × Fd) := [(96, b96), (97, b97), (100, b100), (101, b101), (102, b102), (104, b104), (105, b105), (106, b106), (107, b107), (108, b108), (109, b109), (110, b110), (111, b111)]
def TL7 : List (Nat × Fd) := [(112, b112), (113, b113), (114, b114), (115, b115), (116, b116), (117, b117), (118, b118), (120, b120), (121, b121), (122, b122), (124, b124), (125, b125), (126, b126)]
def TL8 : List (Nat × Fd) := [(133, b133), (134, b134), (135, b135), (137, b137), (138, b138), (139, b139), (140, b140), (141, b141), (142, b142), (143, b143)]
def TL9 : List (Nat × Fd) := [(144, b144), (146, b146), (147, b147), (148, b148), (150, b150), (151, b151), (152, b152), (157, b157), (158, b158), (159, b159)]
def TL10 : List (Nat × Fd) := [(160, b160), (161, b161), (163, b163), (164, b164), (165, b165), (166, b166), (171, b171), (172, b172), (173, b173), (174, b174), (175, b175)]
def TL11 : List (Nat × Fd) := [(176, b176), (179, b179), (185, b185), (186, b186), (187, b187), (188, b188), (189, b189), (190, b190), (191, b191)]
def TL12 : List (Nat × Fd) := [(192, b192), (193, b193), (197, b197), (198, b198), (200, b200), (202, b202), (203, b203), (204, b204)]
def TL13 : List (Nat × Fd) := [(210, b210), (211, b211), (212, b212), (213, b213), (214, b214), (215, b215), (216, b216), (217, b217), (218, b218), (219, b219), (220, b220), (221, b221), (223, b223)]
def TL14 : List (Nat × Fd) := [(225, b225), (226, b226), (227, b227), (233, b233), (234, b234), (235, b235), (237, b237), (238, b238)]
def TL15 : List (Nat × Fd) := [(244, b244), (245, b245), (247, b247), (249, b249), (250, b250), (255, b255)]
def TL16 : List (Nat × Fd) := [(256, b256), (257, b257), (259, b259), (260, b260), (262, b262), (263, b263), (268, b268), (269, b269)]
def TL17 : List (Nat × Fd) := [(274, b274), (275, b275), (276, b276), (277, b277), (281, b281), (284, b284), (285, b285), (286, b286)]
def TL18 : List (Nat × Fd) := [(288, b288), (299, b299), (300, b300), (301, b301), (302, b302), (303, b303)]
def TL19 : List (Nat × Fd) := [(305, b305), (314, b314), (315, b315), (317, b317), (318, b318)]
def TL20 : List (Nat × Fd) := [(323, b323), (331, b331), (332, b332), (335, b335)]
def TL21 : List (Nat × Fd) := [(336, b336), (337, b337), (338, b338), (339, b339), (340, b340), (341, b341), (343, b343), (345, b345)]
def TL22 : List (Nat × Fd) := [(352, b352), (354, b354), (355, b355), (356, b356), (363, b363), (364, b364), (365, b365)]
def TL23 : List (Nat × Fd) := [(373, b373), (377, b377), (378, b378)]
def TL24 : List (Nat × Fd) := [(387, b387), (388, b388), (389, b389), (391, b391), (392, b392), (393, b393), (394, b394), (395, b395), (396, b396), (397, b397), (398, b398), (399, b399)]
def TL25 : List (Nat × Fd) := [(402, b402), (403, b403), (404, b404), (405, b405), (406, b406), (407, b407), (408, b408), (409, b409), (411, b411), (413, b413), (414, b414), (415, b415)]
def TL26 : List (Nat × Fd) := [(416, b416), (417, b417), (418, b418), (419, b419), (420, b420), (421, b421), (422, b422), (423, b423), (427, b427), (428, b428), (429, b429), (430, b430), (431, b431)]
def TL27 : List (Nat × Fd) := [(432, b432), (433, b433), (434, b434), (435, b435), (436, b436), (437, b437), (443, b443), (444, b444), (445, b445), (446, b446), (447, b447)]
def TL28 : List (Nat × Fd) := [(448, b448), (449, b449), (454, b454), (455, b455), (456, b456), (457, b457), (458, b458), (459, b459), (461, b461), (462, b462), (463, b463)]
def TL29 : List (Nat × Fd) := [(465, b465), (466, b466), (467, b467), (468, b468), (471, b471), (472, b472), (473, b473), (474, b474)]
def TL30 : List (Nat × Fd) := [(485, b485), (486, b486), (487, b487), (488, b488), (491, b491), (492, b492), (493, b493), (494, b494), (495, b495)]
def TL31 : List (Nat × Fd) := [(496, b496), (497, b497), (498, b498), (502, b502), (504, b504), (505, b505), (507, b507), (509, b509), (510, b510), (511, b511)]
def TL32 : List (Nat × Fd) := [(518, b518), (519, b519), (520, b520), (521, b521), (526, b526)]
def TL33 : List (Nat × Fd) := [(532, b532), (533, b533), (534, b534), (535, b535), (536, b536), (537, b537), (541, b541), (542, b542)]
def TL34 : List (Nat × Fd) := [(544, b544), (545, b545), (547, b547), (558, b558), (559, b559)]
def TL35 : List (Nat × Fd) := [(564, b564)]
def TL36 : List (Nat × Fd) := [(588, b588), (589, b589), (590, b590), (591, b591)]
def TL37 : List (Nat × Fd) := [(592, b592)]
def TL38 : List (Nat × Fd) := [(608, b608), (609, b609), (610, b610), (611, b611), (612, b612), (614, b614), (615, b615), (616, b616), (617, b617), (618, b618), (619, b619), (620, b620), (621, b621)]
def TL39 : List (Nat × Fd) := [(626, b626), (627, b627), (628, b628), (629, b629), (630, b630), (635, b635), (636, b636), (637, b637)]
def TL40 : List (Nat × Fd) := [(640, b640), (641, b641), (645, b645), (646, b646), (647, b647), (648, b648), (649, b649), (650, b650), (651, b651), (652, b652)]
def TL41 : List (Nat × Fd) := [(656, b656), (658, b658), (659, b659), (660, b660), (661, b661), (663, b663), (665, b665), (666, b666), (669, b669), (670, b670)]
def TL42 : List (Nat × Fd) := [(679, b679), (680, b680), (681, b681), (682, b682), (683, b683), (684, b684), (685, b685), (686, b686), (687, b687)]
def TL43 : List (Nat × Fd) := [(691, b691), (695, b695), (696, b696), (697, b697), (698, b698)]
def TL44 : List (Nat × Fd) := [(705, b705), (706, b706), (707, b707), (708, b708), (709, b709), (710, b710), (711, b711), (712, b712), (715, b715), (716, b716)]
def TL45 : List (Nat × Fd) := [(721, b721), (723, b723), (724, b724), (725, b725), (726, b726), (727, b727), (731, b731), (732, b732), (733, b733), (735, b735)]
def TL46 : List (Nat × Fd) := [(743, b743), (744, b744), (745, b745), (746, b746), (747, b747), (748, b748), (749, b749), (750, b750)]
def TL47 : List (Nat × Fd) := [(753, b753), (754, b754), (756, b756), (757, b757), (758, b758), (765, b765), (767, b767)]
def TL48 : List (Nat × Fd) := [(771, b771), (776, b776), (777, b777), (778, b778), (779, b779), (781, b781)]
/-- the shared table -/
def TLs : List (List (Nat × Fd)) := [TL0, TL1, TL2, TL3, TL4, TL5, TL6, TL7, TL8, TL9, TL10, TL11, TL12, TL13, TL14, TL15, TL16, TL17, TL18, TL19, TL20, TL21, TL22, TL23, TL24, TL25, TL26, TL27, TL28, TL29, TL30, TL31, TL32, TL33, TL34, TL35, TL36, TL37, TL38, TL39, TL40, TL41, TL42, TL43, TL44, TL45, TL46, TL47, TL48]
def TL (i : Nat) : Option Fd := ((TLs[i / 16]?).getD []).lookup i
/-- a table that has the shared defs -/
structure LT (T : Nat → Option Fd) : Prop where
  h0 : T 0 = some b0
  h1 : T 1 = some b1
  h2 : T 2 = some b2
  h3 : T 3 = some b3
  h4 : T 4 = some b4
  h5 : T 5 = some b5
  h6 : T 6 = some b6
  h7 : T 7 = some b7
  h8 : T 8 = some b8
  h9 : T 9 = some b9
  h10 : T 10 = some b10
  h11 : T 11 = some b11
  h12 : T 12 = some b12
  h13 : T 13 = some b13
  h14 : T 14 = some b14
  h15 : T 15 = some b15
  h16 : T 16 = some b16
  h19 : T 19 = some b19
  h20 : T 20 = some b20
  h21 : T 21 = some b21
  h22 : T 22 = some b22
  h23 : T 23 = some b23
  h24 : T 24 = some b24
  h25 : T 25 = some b25
  h27 : T 27 = some b27
  h28 : T 28 = some b28
  h29 : T 29 = some b29
  h30 : T 30 = some b30
  h31 : T 31 = some b31
  h32 : T 32 = some b32
  h33 : T 33 = some b33
  h34 : T 34 = some b34
  h37 : T 37 = some b37
  h38 : T 38 = some b38
  h39 : T 39 = some b39
  h40 : T 40 = some b40
  h41 : T 41 = some b41
  h42 : T 42 = some b42
  h47 : T 47 = some b47
  h49 : T 49 = some b49
  h50 : T 50 = some b50
  h51 : T 51 = some b51
  h52 : T 52 = some b52
  h53 : T 53 = some b53
  h54 : T 54 = some b54
  h56 : T 56 = some b56
  h59 : T 59 = some b59
  h60 : T 60 = some b60
  h61 : T 61 = some b61
  h62 : T 62 = some b62
  h63 : T 63 = some b63
  h64 : T 64 = some b64
  h65 : T 65 = some b65
  h70 : T 70 = some b70
  h71 : T 71 = some b71
  h72 : T 72 = some b72
  h73 : T 73 = some b73
  h74 : T 74 = some b74
  h75 : T 75 = some b75
  h76 : T 76 = some b76
  h77 : T 77 = some b77
  h78 : T 78 = some b78
  h80 : T 80 = some b80
  h81 : T 81 = some b81
  h82 : T 82 = some b82
  h83 : T 83 = some b83
  h85 : T 85 = some b85
  h86 : T 86 = some b86
  h87 : T 87 = some b87
  h92 : T 92 = some b92
  h93 : T 93 = some b93
  h94 : T 94 = some b94
  h95 : T 95 = some b95
  h96 : T 96 = some b96
  h97 : T 97 = some b97
  h100 : T 100 = some b100
  h101 : T 101 = some b101
  h102 : T 102 = some b102
  h104 : T 104 = some b104
  h105 : T 105 = some b105
  h106 : T 106 = some b106
  h107 : T 107 = some b107
  h108 : T 108 = some b108
  h109 : T 109 = some b109
  h110 : T 110 = some b110
  h111 : T 111 = some b111
  h112 : T 112 = some b112
  h113 : T 113 = some b113
  h114 : T 114 = some b114
  h115 : T 115 = some b115
  h116 : T 116 = some b116
  h117 : T 117 = some b117
  h118 : T 118 = some b118
  h120 : T 120 = some b120
  h121 : T 121 = some b121
  h122 : T 122 = some b122
  h124 : T 124 = some b124
  h125 : T 125 = some b125
  h126 : T 126 = some b126
  h133 : T 133 = some b133
  h134 : T 134 = some b134
  h135 : T 135 = some b135
  h137 : T 137 = some b137
  h138 : T 138 = some b138
  h139 : T 139 = some b139
  h140 : T 140 = some b140
  h141 : T 141 = some b141
  h142 : T 142 = some b142
  h143 : T 143 = some b143
  h144 : T 144 = some b144
  h146 : T 146 = some b146
  h147 : T 147 = some b147
  h148 : T 148 = some b148
  h150 : T 150 = some b150
  h151 : T 151 = some b151
  h152 : T 152 = some b152
  h157 : T 157 = some b157
  h158 : T 158 = some b158
  h159 : T 159 = some b159
  h160 : T 160 = some b160
  h161 : T 161 = some b161
  h163 : T 163 = some b163
  h164 : T 164 = some b164
  h165 : T 165 = some b165
  h166 : T 166 = some b166
  h171 : T 171 = some b171
  h172 : T 172 = some b172
  h173 : T 173 = some b173
  h174 : T 174 = some b174
  h175 : T 175 = some b175
  h176 : T 176 = some b176
  h179 : T 179 = some b179
  h185 : T 185 = some b185
  h186 : T 186 = some b186
  h187 : T 187 = some b187
  h188 : T 188 = some b188
  h189 : T 189 = some b189
  h190 : T 190 = some b190
  h191 : T 191 = some b191
  h192 : T 192 = some b192
  h193 : T 193 = some b193
  h197 : T 197 = some b197
  h198 : T 198 = some b198
  h200 : T 200 = some b200
  h202 : T 202 = some b202
  h203 : T 203 = some b203
  h204 : T 204 = some b204
  h210 : T 210 = some b210
  h211 : T 211 = some b211
  h212 : T 212 = some b212
  h213 : T 213 = some b213
  h214 : T 214 = some b214
  h215 : T 215 = some b215
  h216 : T 216 = some b216
  h217 : T 217 = some b217
  h218 : T 218 = some b218
  h219 : T 219 = some b219
  h220 : T 220 = some b220
  h221 : T 221 = some b221
  h223 : T 223 = some b223
  h225 : T 225 = some b225
  h226 : T 226 = some b226
  h227 : T 227 = some b227
  h233 : T 233 = some b233
  h234 : T 234 = some b234
  h235 : T 235 = some b235
  h237 : T 237 = some b237
  h238 : T 238 = some b238
  h244 : T 244 = some b244
  h245 : T 245 = some b245
  h247 : T 247 = some b247
  h249 : T 249 = some b249
  h250 : T 250 = some b250
  h255 : T 255 = some b255
  h256 : T 256 = some b256
  h257 : T 257 = some b257
  h259 : T 259 = some b259
  h260 : T 260 = some b260
  h262 : T 262 = some b262
  h263 : T 263 = some b263
  h268 : T 268 = some b268
  h269 : T 269 = some b269
  h274 : T 274 = some b274
  h275 : T 275 = some b275
  h276 : T 276 = some b276
  h277 : T 277 = some b277
  h281 : T 281 = some b281
  h284 : T 284 = some b284
  h285 : T 285 = some b285
  h286 : T 286 = some b286
  h288 : T 288 = some b288
  h299 : T 299 = some b299
  h300 : T 300 = some b300
  h301 : T 301 = some b301
  h302 : T 302 = some b302
  h303 : T 303 = some b303
  h305 : T 305 = some b305
  h314 : T 314 = some b314
  h315 : T 315 = some b315
  h317 : T 317 = some b317
  h318 : T 318 = some b318
  h323 : T 323 = some b323
  h331 : T 331 = some b331
  h332 : T 332 = some b332
  h335 : T 335 = some b335
  h336 : T 336 = some b336
  h337 : T 337 = some b337
  h338 : T 338 = some b338
  h339 : T 339 = some b339
  h340 : T 340 = some b340
  h341 : T 341 = some b341
  h343 : T 343 = some b343
  h345 : T 345 = some b345
  h352 : T 352 = some b352
  h354 : T 354 = some b354
  h355 : T 355 = some b355
  h356 : T 356 = some b356
  h363 : T 363 = some b363
  h364 : T 364 = some b364
  h365 : T 365 = some b365
  h373 : T 373 = some b373
  h377 : T 377 = some b377
  h378 : T 378 = some b378
  h387 : T 387 = some b387
  h388 : T 388 = some b388
  h389 : T 389 = some b389
  h391 : T 391 = some b391
  h392 : T 392 = some b392
  h393 : T 393 = some b393
  h394 : T 394 = some b394
  h395 : T 395 = some b395
  h396 : T 396 = some b396
  h397 : T 397 = some b397
  h398 : T 398 = some b398
  h399 : T 399 = some b399
  h402 : T 402 = some b402
  h403 : T 403 = some b403
  h404 : T 404 = some b404
  h405 : T 405 = some b405
  h406 : T 406 = some b406
  h407 : T 407 = some b407
  h408 : T 408 = some b408
  h409 : T 409 = some b409
  h411 : T 411 = some b411
  h413 : T 413 = some b413
  h414 : T 414 = some b414
  h415 : T 415 = some b415
  h416 : T 416 = some b416
  h417 : T 417 = some b417
  h418 : T 418 = some b418
  h419 : T 419 = some b419
  h420 : T 420 = some b420
  h421 : T 421 = some b421
  h422 : T 422 = some b422
  h423 : T 423 = some b423
  h427 : T 427 = some b427
  h428 : T 428 = some b428
  h429 : T 429 = some b429
  h430 : T 430 = some b430
  h431 : T 431 = some b431
  h432 : T 432 = some b432
  h433 : T 433 = some b433
  h434 : T 434 = some b434
  h435 : T 435 = some b435
  h436 : T 436 = some b436
  h437 : T 437 = some b437
  h443 : T 443 = some b443
  h444 : T 444 = some b444
  h445 : T 445 = some b445
  h446 : T 446 = some b446
  h447 : T 447 = some b447
  h448 : T 448 = some b448
  h449 : T 449 = some b449
  h454 : T 454 = some b454
  h455 : T 455 = some b455
  h456 : T 456 = some b456
  h457 : T 457 = some b457
  h458 : T 458 = some b458
  h459 : T 459 = some b459
  h461 : T 461 = some b461
  h462 : T 462 = some b462
  h463 : T 463 = some b463
  h465 : T 465 = some b465
  h466 : T 466 = some b466
  h467 : T 467 = some b467
  h468 : T 468 = some b468
  h471 : T 471 = some b471
  h472 : T 472 = some b472
  h473 : T 473 = some b473
  h474 : T 474 = some b474
  h485 : T 485 = some b485
  h486 : T 486 = some b486
  h487 : T 487 = some b487
  h488 : T 488 = some b488
  h491 : T 491 = some b491
  h492 : T 492 = some b492
  h493 : T 493 = some b493
  h494 : T 494 = some b494
  h495 : T 495 = some b495
  h496 : T 496 = some b496
  h497 : T 497 = some b497
  h498 : T 498 = some b498
  h502 : T 502 = some b502
  h504 : T 504 = some b504
  h505 : T 505 = some b505
  h507 : T 507 = some b507
  h509 : T 509 = some b509
  h510 : T 510 = some b510
  h511 : T 511 = some b511
  h518 : T 518 = some b518
  h519 : T 519 = some b519
  h520 : T 520 = some b520
  h521 : T 521 = some b521
  h526 : T 526 = some b526
  h532 : T 532 = some b532
  h533 : T 533 = some b533
  h534 : T 534 = some b534
  h535 : T 535 = some b535
  h536 : T 536 = some b536
  h537 : T 537 = some b537
  h541 : T 541 = some b541
  h542 : T 542 = some b542
  h544 : T 544 = some b544
  h545 : T 545 = some b545
  h547 : T 547 = some b547
  h558 : T 558 = some b558
  h559 : T 559 = some b559
  h564 : T 564 = some b564
  h588 : T 588 = some b588
  h589 : T 589 = some b589
  h590 : T 590 = some b590
  h591 : T 591 = some b591
  h592 : T 592 = some b592
  h608 : T 608 = some b608
  h609 : T 609 = some b609
  h610 : T 610 = some b610
  h611 : T 611 = some b611
  h612 : T 612 = some b612
  h614 : T 614 = some b614
  h615 : T 615 = some b615
  h616 : T 616 = some b616
  h617 : T 617 = some b617
  h618 : T 618 = some b618
  h619 : T 619 = some b619
  h620 : T 620 = some b620
  h621 : T 621 = some b621
  h626 : T 626 = some b626
  h627 : T 627 = some b627
  h628 : T 628 = some b628
  h629 : T 629 = some b629
  h630 : T 630 = some b630
  h635 : T 635 = some b635
  h636 : T 636 = some b636
  h637 : T 637 = some b637
  h640 : T 640 = some b640
  h641 : T 641 = some b641
  h645 : T 645 = some b645
  h646 : T 646 = some b646
  h647 : T 647 = some b647
  h648 : T 648 = some b648
  h649 : T 649 = some b649
  h650 : T 650 = some b650
  h651 : T 651 = some b651
  h652 : T 652 = some b652
  h656 : T 656 = some b656
  h658 : T 658 = some b658
  h659 : T 659 = some b659
  h660 : T 660 = some b660
  h661 : T 661 = some b661
  h663 : T 663 = some b663
  h665 : T 665 = some b665
  h666 : T 666 = some b666
  h669 : T 669 = some b669
  h670 : T 670 = some b670
  h679 : T 679 = some b679
  h680 : T 680 = some b680
  h681 : T 681 = some b681
  h682 : T 682 = some b682
  h683 : T 683 = some b683
  h684 : T 684 = some b684
  h685 : T 685 = some b685
  h686 : T 686 = some b686
  h687 : T 687 = some b687
  h691 : T 691 = some b691
  h695 : T 695 = some b695
  h696 : T 696 = some b696
  h697 : T 697 = some b697
  h698 : T 698 = some b698
  h705 : T 705 = some b705
  h706 : T 706 = some b706
  h707 : T 707 = some b707
  h708 : T 708 = some b708
  h709 : T 709 = some b709
  h710 : T 710 = some b710
  h711 : T 711 = some b711
  h712 : T 712 = some b712
  h715 : T 715 = some b715
  h716 : T 716 = some b716
  h721 : T 721 = some b721
  h723 : T 723 = some b723
  h724 : T 724 = some b724
  h725 : T 725 = some b725
  h726 : T 726 = some b726
  h727 : T 727 = some b727
  h731 : T 731 = some b731
  h732 : T 732 = some b732
  h733 : T 733 = some b733
  h735 : T 735 = some b735
  h743 : T 743 = some b743
  h744 : T 744 = some b744
  h745 : T 745 = some b745
  h746 : T 746 = some b746
  h747 : T 747 = some b747
  h748 : T 748 = some b748
  h749 : T 749 = some b749
  h750 : T 750 = some b750
  h753 : T 753 = some b753
  h754 : T 754 = some b754
  h756 : T 756 = some b756
  h757 : T 757 = some b757
  h758 : T 758 = some b758
  h765 : T 765 = some b765
  h767 : T 767 = some b767
  h771 : T 771 = some b771
  h776 : T 776 = some b776
  h777 : T 777 = some b777
  h778 : T 778 = some b778
  h779 : T 779 = some b779
  h781 : T 781 = some b781
end Lb

set_option maxRecDepth 100000
set_option maxHeartbeats 400000
/-! Lo: orders: what their defs say. -/
namespace Lb
open Mp PySem L2
abbrev R2 := Int × Int
/-- what a row is ordered by -/
def plc (o : Int) (r : R2) : List Int := if o = 0 then [r.1] else [r.2, r.1]
def eI (xs : List Int) : P := .tuple (xs.map .int)
@[simp] theorem fsv {x : D} : FreeS (.val x) := .inr (.inl ⟨_, rfl⟩)
theorem lexLt_eq : ∀ a b : List Int, HT.lexLt a b = decide (a < b)
  | [], [] => rfl
  | [], _ :: _ => by simp [HT.lexLt]
  | _ :: _, [] => by simp [HT.lexLt]
  | a :: as, b :: bs => by
    unfold HT.lexLt
    rw [lexLt_eq as bs]
    by_cases h2 : a = b
    · subst h2; simp [List.cons_lt_cons_iff]
    · simp [h2, List.cons_lt_cons_iff]
theorem ltP_eI (a b : List Int) : ltP (eI a) (eI b) = some (decide (a < b)) := by
  have e : ∀ xs : List Int, intsP (xs.map PyData.int) = some xs := fun xs => by
    have := intsP_map (fun x : Int => x) xs
    simpa using this
  show (match intsP (a.map PyData.int), intsP (b.map PyData.int) with
    | some a, some b => some (HT.lexLt a b)
    | _, _ => none) = _
  rw [e, e]
  simp only [lexLt_eq]
/-! rows and lists of rows as operands -/
theorem cutL_map {α β : Type} (f : α → β) (xs : List α) (lo hi : Option Int) : cutL (xs.map f) lo hi = (cutL xs lo hi).map f := by
  unfold cutL
  rw [List.length_map, List.map_take, List.map_drop]
theorem atI_map {α β : Type} (f : α → β) (xs : List α) (i : Int) : atI (xs.map f) i = (atI xs i).map f := by
  unfold atI
  rw [List.length_map]
  cases ixN xs.length i <;> simp
@[simp] theorem seqI_eRs (rs : List R2) (ρ : Mp.Env) : seqI (.sh (.d (eRs rs))) ρ = .ok (rs.map fun r => D.d (eR r)) ρ := by
  show R.ok ((rs.map eR).map D.d) ρ = _
  rw [List.map_map]; rfl
@[simp] theorem seqI_mR (rs : List R2) (ρ : Mp.Env) : seqI (.fr (.d (.list (rs.map eR)))) ρ = .ok (rs.map fun r => D.d (eR r)) ρ := by
  show R.ok ((rs.map eR).map D.d) ρ = _
  rw [List.map_map]; rfl
@[simp] theorem lenP_eRs (rs : List R2) : lenP (eRs rs) = some (.int rs.length) := by
  show some (PyData.int ((rs.map eR).length : Nat)) = _
  rw [List.length_map]
@[simp] theorem cutP_eRs (lo hi : Option Int) (rs : List R2) : cutP lo hi (eRs rs) = some (eRs (cutL rs lo hi)) := by
  show some (PyData.tuple (cutL (rs.map eR) lo hi)) = _
  rw [cutL_map]; rfl
@[simp] theorem ixP_eRs (rs : List R2) (i : Int) : ixP (eRs rs) (.int i) = (atI rs i).map eR := atI_map eR rs i
@[simp] theorem ixP_eR0 (r : R2) : ixP (eR r) (.int 0) = some (.int r.1) := rfl
@[simp] theorem ixP_eR1 (r : R2) : ixP (eR r) (.int 1) = some (.int r.2) := rfl
@[simp] theorem newP_eRs (rs : List R2) : newP (eRs rs) = .sh (.d (eRs rs)) := rfl
@[simp] theorem newP_eR (r : R2) : newP (eR r) = .sh (.d (eR r)) := rfl
@[simp] theorem addP_eRs (a b : List R2) : addP (eRs a) (eRs b) = if a.length + b.length ≤ 16777216 then some (eRs (a ++ b)) else none := by
  show (if (a.map eR).length + (b.map eR).length ≤ 16777216 then some (PyData.tuple (a.map eR ++ b.map eR)) else none) = _
  rw [List.length_map, List.length_map, ← List.map_append]; rfl
@[simp] theorem tupP_mR (rs : List R2) : tupP (.list (rs.map eR)) = some (eRs rs) := rfl
theorem depth_eI (xs : List Int) : (eI xs).depth = 1 := by
  show PyData.depthAll (xs.map PyData.int) + 1 = 1
  rw [depth_ints]
theorem leP_eI (a b : List Int) : leP (eI a) (eI b) = some (!decide (b < a)) := by
  have e : ∀ xs : List Int, intsP (xs.map PyData.int) = some xs := fun xs => by
    have := intsP_map (fun x : Int => x) xs
    simpa using this
  show (match intsP (a.map PyData.int), intsP (b.map PyData.int) with
    | some a, some b => some (!HT.lexLt b a)
    | _, _ => none) = _
  rw [e, e]
  simp only [lexLt_eq]
theorem eqvAll_ints : ∀ a b : List Int, PyData.eqvAll (a.map .int) (b.map .int) = decide (a = b)
  | [], [] => rfl
  | [], _ :: _ => rfl
  | _ :: _, [] => rfl
  | a :: as, b :: bs => by
    show ((a == b) && PyData.eqvAll (as.map .int) (bs.map .int)) = _
    rw [eqvAll_ints as bs]
    by_cases h : a = b <;> simp [h]
theorem eqv_eI (a b : List Int) : PyData.eqv (eI a) (eI b) = decide (a = b) := eqvAll_ints a b
theorem eqP_eI (a b : List Int) : eqP (eI a) (eI b) = some (decide (a = b)) := by
  unfold eqP
  rw [if_pos (by rw [depth_eI, depth_eI]; decide), eqv_eI]
theorem eqv_eR (a b : R2) : PyData.eqv (eR a) (eR b) = decide (a = b) := by
  obtain ⟨a1, a2⟩ := a
  obtain ⟨b1, b2⟩ := b
  have := eqvAll_ints [a1, a2] [b1, b2]
  refine Eq.trans this ?_
  simp
theorem eqvAll_eR : ∀ a b : List R2, PyData.eqvAll (a.map eR) (b.map eR) = decide (a = b)
  | [], [] => rfl
  | [], _ :: _ => rfl
  | _ :: _, [] => rfl
  | a :: as, b :: bs => by
    show (PyData.eqv (eR a) (eR b) && PyData.eqvAll (as.map eR) (bs.map eR)) = _
    rw [eqvAll_eR as bs, eqv_eR]
    by_cases h : a = b <;> simp [h]
theorem eqv_eRs (a b : List R2) : PyData.eqv (eRs a) (eRs b) = decide (a = b) := eqvAll_eR a b
theorem depth_eR (a : R2) : (eR a).depth = 1 := depth_eI [a.1, a.2]
theorem depth_eRs : ∀ a : List R2, (eRs a).depth ≤ 2 := fun a => by
  show PyData.depthAll (a.map eR) + 1 ≤ 2
  induction a with
  | nil => decide
  | cons a as ih =>
    show max (eR a).depth (PyData.depthAll (as.map eR)) + 1 ≤ 2
    rw [depth_eR]
    omega
@[simp] theorem eqP_eR (a b : R2) : eqP (eR a) (eR b) = some (decide (a = b)) := by
  unfold eqP
  rw [if_pos (by rw [depth_eR, depth_eR]; decide), eqv_eR]
@[simp] theorem eqP_eRs (a b : List R2) : eqP (eRs a) (eRs b) = some (decide (a = b)) := by
  have := depth_eRs a
  unfold eqP
  rw [if_pos (by omega), eqv_eRs]
theorem cutL_nn {α : Type} (xs : List α) (a b : Nat) : cutL xs (some (a : Int)) (some (b : Int)) = (xs.drop a).take (b - a) := by
  unfold cutL
  rw [HT.sIx_nat, HT.sIx_nat]
  by_cases h : a ≤ xs.length
  · rw [Nat.min_eq_left h]
    by_cases h2 : b ≤ xs.length
    · rw [Nat.min_eq_left h2]
    · rw [Nat.min_eq_right (by omega), List.take_of_length_le (by rw [List.length_drop]; omega), List.take_of_length_le (by rw [List.length_drop]; omega)]
  · have e1 : min a xs.length = xs.length := Nat.min_eq_right (by omega)
    rw [e1, List.drop_eq_nil_of_le (Nat.le_refl _), List.drop_eq_nil_of_le (by omega)]
    simp
theorem rng3_0 (n z : Nat) (hz : 0 < z ∧ z ≤ 1000) (hn : n ≤ 1000000) (ρ : Mp.Env) : rng3I (.sh (.d (.int 0))) (.sh (.d (.int ((n : Int) + 1)))) (.sh (.d (.int (z : Int)))) ρ = .ok ((List.range (n / z + 1)).map fun k : Nat => D.d (.int ((k : Int) * z))) ρ := by
  have e : Builtin.Range.rangeSize 0 ((n : Int) + 1) z = ((n / z + 1 : Nat) : Int) := by
    unfold Builtin.Range.rangeSize
    rw [if_pos (by omega), if_pos (by omega)]
    have : ((n : Int) + 1 - 0 - 1) = n := by omega
    rw [this]
    simp
  have hd : n / z ≤ n := Nat.div_le_self _ _
  generalize n / z = q at e hd
  have hs : Builtin.Range.small 0 ((n : Int) + 1) z = true := by
    unfold Builtin.Range.small
    rw [e, if_pos (show (z : Int) > 0 by omega)]
    simp only [Builtin.Range.rangeFitsLong, Bool.and_eq_true, Bool.or_eq_true, decide_eq_true_eq, beq_iff_eq]
    omega
  show (if (z : Int) ≠ 0 ∧ (z : Int).natAbs < 1073741824 ∧ Builtin.Range.small 0 ((n : Int) + 1) z = true ∧ 0 ≤ Builtin.Range.rangeSize 0 ((n : Int) + 1) z ∧ Builtin.Range.rangeSize 0 ((n : Int) + 1) z ≤ 16777216 then R.ok ((List.range (Builtin.Range.rangeSize 0 ((n : Int) + 1) z).toNat).map fun (k : Nat) => D.d (.int (0 + (k : Int) * z))) ρ else .bad) = _
  rw [e, if_pos ⟨by omega, by omega, hs, by omega, by omega⟩, Int.toNat_natCast]
  simp only [Int.zero_add]
section
variable {T : Nat → Option Fd} (M : LT T)
include M
theorem s70 (k : Nat) (o : Int) (r : R2) : runs T (k+1) 70 [.sh (.d (.int o)), .sh (.d (eR r))] = .ok (.d (eI (plc o r))) false [none, none] := by
  rw [runs_eq M.h70]
  by_cases h : o = 0 <;> simp [b70, eR, h, plc, eI]
theorem s78 (k : Nat) (o : Int) (r : R2) : runs T (k+1) 78 [.sh (.d (.int o)), .sh (.d (eR r))] = .ok (.d (eI (plc o r))) false [none, none] := by
  rw [runs_eq M.h78]
  by_cases h : o = 0 <;> simp [b78, eR, h, plc, eI]
omit M in
theorem plc_cons (o : Int) (r : R2) : ∃ n ns, eI (plc o r) = .tuple ((n :: ns).map PyData.int) := by
  unfold plc eI
  by_cases h : o = 0
  · exact ⟨r.1, [], by simp [h]⟩
  · exact ⟨r.2, [r.1], by simp [h]⟩
omit M in
theorem noL_eI (xs : List Int) : noL (eI xs) = true := by
  show noLs (xs.map .int) = true
  induction xs with
  | nil => rfl
  | cons x xs ih =>
    show (noL (.int x) && noLs (xs.map .int)) = true
    rw [ih]; rfl
omit M in
theorem noL_eR (r : R2) : noL (eR r) = true := rfl
/-- no row ahead of one ahead of it -/
def leR (o : Int) (a b : R2) : Bool := !decide (plc o b < plc o a)
def ordR (o : Int) (rs : List R2) : List R2 := isortB (leR o) rs
omit M in
theorem leR_dle (o : Int) (a b : R2) : leR o a b = dle (eI (plc o a)) (eI (plc o b)) := (dle_tup _ _).symm
theorem key70 (k : Nat) (o : Int) (rs : List R2) (ρ : Mp.Env) (h : ρ = [.val (.d (.int o)), .val (.d (eRs rs))]) :
    sortKE [(0, "order")] (ev (runs T (k+1)) (.call 70 (.cons (.var 1 "order") (.cons (.var 0 "row") .nil)))).v (.sh (.d (eRs rs))) ρ = .ok (.fr (.d (.list ((ordR o rs).map eR)))) ρ := by
  subst h
  refine sortKE_map eR (fun r => eI (plc o r)) (leR o) (leR_dle o) (vs := [.int o]) (xs := rs) rfl rfl (fun x hx => ⟨rfl, noL_eI _, ?_⟩) (sortOk_map _ _ fun a => plc_cons o a)
  have := s70 M k o x
  exact ⟨_, by simp [this]; rfl⟩
theorem s71 (k : Nat) (o : Int) (rs : List R2) : runs T (k+2) 71 [.sh (.d (.int o)), .sh (.d (eRs rs))] = .ok (.d (eRs (ordR o rs))) false [none, none] := by
  rw [runs_eq M.h71]
  have := key70 M k o rs _ rfl
  simp [b71] at this ⊢
  rw [this]
  rfl
theorem s83 (k : Nat) (o : Int) (rs : List R2) : runs T (k+2) 83 [.sh (.d (.int o)), .sh (.d (eRs rs))] = .ok (.d (.list ((ordR o rs).map eR))) true [none, none] := by
  rw [runs_eq M.h83]
  have : sortKE [(0, "order")] (ev (runs T (k+1)) (.call 78 (.cons (.var 1 "order") (.cons (.var 0 "row") .nil)))).v (.sh (.d (eRs rs))) [.val (.d (.int o)), .val (.d (eRs rs))] = .ok (.fr (.d (.list ((ordR o rs).map eR)))) [.val (.d (.int o)), .val (.d (eRs rs))] := by
    refine sortKE_map eR (fun r => eI (plc o r)) (leR o) (leR_dle o) (vs := [.int o]) (xs := rs) rfl rfl (fun x hx => ⟨rfl, noL_eI _, ?_⟩) (sortOk_map _ _ fun a => plc_cons o a)
    have := s78 M k o x
    exact ⟨_, by simp [this]; rfl⟩
  simp [b83] at this ⊢
  rw [this]
  rfl
/-! checks -/
def isO (o : Int) : Prop := 0 ≤ o ∧ o ≤ 1
theorem s72 (k : Nat) (v : P) : runs T (k+2) 72 [.sh (.d v)] = if fitsW v 0 1 then .ok (.d .none) false [none] else .ex ⟨4, []⟩ [none] := by
  rw [runs_eq M.h72]
  cases h : fitsW v 0 1 <;> simp [b72, s1 M.h1, h]
theorem s73 (k : Nat) (v : P) : runs T (k+3) 73 [.sh (.d v)] = if fitsRow v then .ok (.d .none) false [none] else .ex ⟨0, []⟩ [none] := by
  rw [runs_eq M.h73]
  cases h : fitsRow v <;> simp [b73, s2 M.h0 M.h1 M.h2, h]
theorem s85 (k : Nat) (v : P) : runs T (k+2) 85 [.sh (.d v)] = if fitsW v 1 3 then .ok (.d .none) false [none] else .ex ⟨4, []⟩ [none] := by
  rw [runs_eq M.h85]
  cases h : fitsW v 1 3 <;> simp [b85, s1 M.h1, h]
omit M in
theorem fitsW_int {i lo hi : Int} (h : lo ≤ i ∧ i ≤ hi) : fitsW (.int i) lo hi = true := by simp [fitsW, h]
theorem need5 {k : Nat} {rs : List R2} (h : RowsOk rs) : runs T (k+4) 5 [.sh (.d (eRs rs))] = .ok (.d .none) false [none] := by
  rw [s5 M.h0 M.h1 M.h2 M.h3 M.h5, fitsList_eRs h]; rfl
theorem s74 (k : Nat) {o : Int} {rs : List R2} (ho : isO o) (h : RowsOk rs) : runs T (k+5) 74 [.sh (.d (.int o)), .sh (.d (eRs rs))] = .ok (.d (eRs (ordR o rs))) false [none, none] := by
  rw [runs_eq M.h74]
  simp [b74, s72 M, fitsW_int ho, need5 M h, s71 M]
theorem s75 (k : Nat) {o : Int} {a b : R2} (ho : isO o) (ha : Rw a) (hb : Rw b) : runs T (k+4) 75 [.sh (.d (.int o)), .sh (.d (eR a)), .sh (.d (eR b))] = .ok (.d (.bool (decide (plc o a < plc o b)))) false [none, none, none] := by
  rw [runs_eq M.h75]
  simp [b75, s72 M, fitsW_int ho, s73 M, fitsRow_eR ha, fitsRow_eR hb, s70 M, ltP_eI]
theorem s76 (k : Nat) {o : Int} {a : R2} {rs : List R2} (ho : isO o) (ha : Rw a) (h : RowsOk rs) : runs T (k+5) 76 [.sh (.d (.int o)), .sh (.d (eRs rs)), .sh (.d (eR a))] = .ok (.d (.int (rs.filter fun r => decide (plc o r < plc o a)).length)) false [none, none, none] := by
  rw [runs_eq M.h76]
  simp [b76, s72 M, fitsW_int ho, need5 M h, s73 M, fitsRow_eR ha]
  rw [comp_filter (fun r : R2 => D.d (eR r)) (fun r => decide (plc o r < plc o a)) eR (fun r hr => ?_)]
  · simp
  · by_cases hp : plc o r < plc o a <;> simp [turnOk, s70 M, ltP_eI, hp]
theorem s77 (k : Nat) {q : Int} {rs : List R2} (h : RowsOk rs) (hq : 0 ≤ q ∧ q ≤ 5) : runs T (k+5) 77 [.sh (.d (eRs rs)), .sh (.d (.int q))] = .ok (.d (eRs (rs.filter fun r => decide (r.2 = q)))) false [none, none] := by
  rw [runs_eq M.h77]
  simp [b77, need5 M h, s1 M.h1, fitsW_int hq]
  rw [comp_filter (fun r : R2 => D.d (eR r)) (fun r => decide (r.2 = q)) eR (fun r hr => ?_)]
  · simp; rfl
  · by_cases hp : r.2 = q <;> simp [turnOk, hp]
/-- what is kept of a row by a mark -/
def mkR (o m : Int) (r : R2) : List Int := if m = 2 then plc o r else (plc o r).take 1
omit M in
@[simp] theorem cutP_eI1 (xs : List Int) : cutP none (some 1) (eI xs) = some (eI (xs.take 1)) := by
  show some (PyData.tuple (cutL (xs.map PyData.int) none (some 1))) = _
  rw [cutL_map, cutL_to1]; rfl
omit M in
@[simp] theorem newP_eI (xs : List Int) : newP (eI xs) = .sh (.d (eI xs)) := rfl
theorem s80 (k : Nat) (o m : Int) (r : R2) : runs T (k+2) 80 [.sh (.d (.int o)), .sh (.d (.int m)), .sh (.d (eR r))] = .ok (.d (eI (mkR o m r))) false [none, none, none] := by
  rw [runs_eq M.h80]
  by_cases h : m = 2 <;> simp [b80, h, s70 M, mkR]
/-- does a row stand ahead of what begins by the mark of a -/
def ahd (o m s : Int) (a r : R2) : Bool := decide (mkR o m r < mkR o m a) || (decide (mkR o m r = mkR o m a) && decide (s = 0))
def beg (o m s : Int) (a : R2) (rs : List R2) : Nat := ((ordR o rs).filter (ahd o m s a)).length
def IvB (o m s : Int) (a : R2) (rs : List R2) (done : List R2) (ρ : Mp.Env) : Prop := ∃ s7 s8, ρ = [.val (.d (.int o)), .val (.d (.int m)), .val (.d (.int s)), .val (.d (eR a)), .val (.d (eRs rs)), .val (.d (eI (mkR o m a))), .val (.d (.int ((done.filter (ahd o m s a)).length : Int))), s7, s8] ∧ freeS s7 = true ∧ freeS s8 = true
theorem s81 (k : Nat) (o m s : Int) (a : R2) (rs : List R2) : runs T (k+3) 81 [.sh (.d (.int o)), .sh (.d (.int m)), .sh (.d (.int s)), .sh (.d (eR a)), .sh (.d (eRs rs))] = .ok (.d (.int (beg o m s a rs))) false [none, none, none, none, none] := by
  rw [runs_eq M.h81]
  simp [b81, s80 M, s71 M]
  generalize hf : forL _ _ _ _ = z
  obtain ⟨ρ', rfl, s7, s8, rfl, _⟩ : ∃ ρ', z = .nx ρ' ∧ IvB o m s a rs (ordR o rs) ρ' := by
    rw [← hf]
    refine for_iv (fun r : R2 => D.d (eR r)) (IvB o m s a rs) ⟨.un, .un, rfl, rfl, rfl⟩ fun done x rest ρ e h => ?_
    obtain ⟨s7, s8, rfl, f7, f8⟩ := h
    simp [f7, f8, s80 M, ltP_eI, eqP_eI]
    refine ⟨.val (.d (eR x)), .val (.d (eI (mkR o m x))), ?_, rfl, rfl⟩
    by_cases h : mkR o m x < mkR o m a ∨ mkR o m x = mkR o m a ∧ s = 0
    · have h' : ahd o m s a x = true := by simpa [ahd] using h
      simp [h, List.filter_append, List.filter_cons, h']
    · have h' : ahd o m s a x = false := by simpa [ahd] using h
      simp [h, List.filter_append, List.filter_cons, h']
  simp [beg]
theorem s82 (k : Nat) {o m s : Int} {a : R2} {rs : List R2} (ho : isO o) (hm : 1 ≤ m ∧ m ≤ 2) (hs : 0 ≤ s ∧ s ≤ 1) (ha : Rw a) (h : RowsOk rs) : runs T (k+5) 82 [.sh (.d (.int o)), .sh (.d (.int m)), .sh (.d (.int s)), .sh (.d (eR a)), .sh (.d (eRs rs))] = .ok (.d (.int (beg o m s a rs))) false [none, none, none, none, none] := by
  rw [runs_eq M.h82]
  simp [b82, s72 M, fitsW_int ho, s1 M.h1, fitsW_int hm, fitsW_int hs, s73 M, fitsRow_eR ha, need5 M h, s81 M]
theorem s86 (k : Nat) {o n z : Int} {rs : List R2} (ho : isO o) (h : RowsOk rs) (hn : 0 ≤ n ∧ n ≤ 1000) (hz : 1 ≤ z ∧ z ≤ 3) : runs T (k+5) 86 [.sh (.d (.int o)), .sh (.d (eRs rs)), .sh (.d (.int n)), .sh (.d (.int z))] = .ok (.d (eRs (((ordR o rs).drop n.toNat).take z.toNat))) false [none, none, none, none] := by
  rw [runs_eq M.h86]
  obtain ⟨n, rfl⟩ : ∃ m : Nat, n = m := ⟨n.toNat, by omega⟩
  obtain ⟨z, rfl⟩ : ∃ m : Nat, z = m := ⟨z.toNat, by omega⟩
  have e := cutL_nn (ordR o rs) n (n + z)
  rw [Nat.add_sub_cancel_left] at e
  simp at e
  simp [b86, s72 M, fitsW_int ho, s1 M.h1, fitsW_int hn, s85 M, fitsW_int hz, need5 M h, s71 M, e]
omit M in
/-- the pages of a line -/
def pgs {α : Type} (z : Nat) (l : List α) : List (List α) := (List.range (l.length / z + 1)).map fun k => (l.drop (k * z)).take z
theorem s87 (k : Nat) {o z : Int} {rs : List R2} (ho : isO o) (h : RowsOk rs) (hz : 1 ≤ z ∧ z ≤ 3) : runs T (k+5) 87 [.sh (.d (.int o)), .sh (.d (eRs rs)), .sh (.d (.int z))] = .ok (.d (.tuple ((pgs z.toNat (ordR o rs)).map eRs))) false [none, none, none] := by
  rw [runs_eq M.h87]
  obtain ⟨z, rfl⟩ : ∃ m : Nat, z = m := ⟨z.toNat, by omega⟩
  have hl : (ordR o rs).length = rs.length := by unfold ordR; rw [isortB_len]
  have := h.len
  simp [b87, s72 M, fitsW_int ho, s85 M, fitsW_int hz, need5 M h, s71 M, rng3_0 (ordR o rs).length z (by omega) (by omega)]
  rw [comp_map' (fun k : Nat => D.d (.int ((k : Int) * z))) (fun k => eRs (((ordR o rs).drop (k * z)).take z)) (fun k hk => ?_)]
  · simp [pgs]
  · have e := cutL_nn (ordR o rs) (k * z) (k * z + z)
    rw [Nat.add_sub_cancel_left] at e
    simp at e
    simp [turnOk, e]
end
end Lb

set_option maxRecDepth 100000
set_option maxHeartbeats 400000
/-! Ld: the drawer of a law, what is drawn. -/
namespace Lb
open Mp PySem L2
/-- the drawer's defs -/
structure Dr (T : Nat → Option Fd) : Prop where
  roll : ∃ c0 c1 c2 c3 c4 c5, T 18 = some (bRoll c0 c1 c2 c3 c4 c5) ∧ HC c0 c1 c2 c3 c4 c5
  cup : ∃ c0 c1 c2 c3 c4, T 17 = some (bCup c0 c1 c2 c3 c4) ∧ (0 < c0 ∧ c0 < 1073741824) ∧ (0 ≤ c1 ∧ c1 ≤ 4294967296) ∧ 0 < c3 ∧ 0 ≤ c4 ∧ c3 + c4 ≤ 4294967296
/-- a drawer -/
def CupD (x : D) : Prop := ∃ a b, x = cup a b ∧ 0 ≤ b ∧ b ≤ 4294967296
section
variable {T : Nat → Option Fd}
theorem Dr.cup_ok (d : Dr T) (k : Nat) (ns : List Int) (hn : ns.length ≤ 63) : ∃ x, runs T (k+1) 17 [.sh (.fz ns)] = .ok x true [none] ∧ CupD x := by
  obtain ⟨c0, c1, c2, c3, c4, h, h0, h1, h3, h4, h5⟩ := d.cup
  obtain ⟨c, l, hc⟩ : ∃ (c : Int) (l : List P), ns.map PyData.int ++ [PyData.int 0] = .int c :: l := by
    cases ns with
    | nil => exact ⟨0, [], rfl⟩
    | cons n ns => exact ⟨n, _, rfl⟩
  have q1 : smallI c1 = true := smallI_of (by omega)
  generalize hcell : (if c < 0 then -c else c) = cell
  have hn0 : 0 ≤ (cell * c1 + c2) % c3 := Int.emod_nonneg _ (by omega)
  have hn1 : (cell * c1 + c2) % c3 < c3 := Int.emod_lt_of_pos _ (by omega)
  refine ⟨_, ?_, if cell ≥ 10 ^ 18 then cell / c0 else 0, (cell * c1 + c2) % c3 + c4, rfl, by omega, by omega⟩
  rw [runs_eq h]
  have e18 : (10 : Int) ^ (Int.toNat 18) = 1000000000000000000 := by decide
  by_cases hb : cell ≥ 1000000000000000000
  · simp [bCup, show ns.length + 1 ≤ 16777216 by omega, show ns.length ≤ 16777215 by omega, hc, hcell, q1, hb, e18, h0, h3]
  · simp [bCup, show ns.length + 1 ≤ 16777216 by omega, show ns.length ≤ 16777215 by omega, hc, hcell, q1, hb, e18, h0, h3]
theorem Dr.roll_ok (d : Dr T) (k : Nat) {x : D} (hx : CupD x) (m : Int) (hm : 0 < m ∧ m < 1073741824) : ∃ x' r, runs T (k+1) 18 [.ln x, .sh (.d (.int m))] = .ok (.d (.int r)) false [some x', none] ∧ CupD x' ∧ 0 ≤ r ∧ r < m := by
  obtain ⟨c0, c1, c2, c3, c4, c5, h, hc⟩ := d.roll
  obtain ⟨a, b, rfl, hb⟩ := hx
  obtain ⟨a', b', r, e, h1, h2, h3⟩ := sRoll h hc k a b m hm hb
  exact ⟨_, r, e, ⟨a', b', rfl, h3⟩, h1, h2⟩
theorem Dr.rollN (d : Dr T) (k : Nat) {x : D} (hx : CupD x) (m : Int) (hm : 0 < m ∧ m < 1073741824) : ∃ x', ∃ r : Nat, runs T (k+1) 18 [.ln x, .sh (.d (.int m))] = .ok (.d (.int r)) false [some x', none] ∧ CupD x' ∧ (r : Int) < m := by
  obtain ⟨x', r, h1, h2, h3, h4⟩ := d.roll_ok k hx m hm
  obtain ⟨n, rfl⟩ : ∃ n : Nat, r = n := ⟨r.toNat, by omega⟩
  exact ⟨x', n, h1, h2, h4⟩
theorem Dr.some_ok (d : Dr T) (h19 : T 19 = some b19) (k : Nat) {x : D} (hx : CupD x) (xs : List P) (h1 : xs ≠ []) (h2 : xs.length < 1073741824) : ∃ x' y, runs T (k+2) 19 [.ln x, .sh (.d (.list xs))] = .ok (.d y) false [some x', none] ∧ CupD x' ∧ y ∈ xs := by
  obtain ⟨c0, c1, c2, c3, c4, c5, h, hc⟩ := d.roll
  obtain ⟨a, b, rfl, hb⟩ := hx
  obtain ⟨a', b', y, e, h3, h4⟩ := sSome h19 h hc k a b xs h1 h2 hb
  exact ⟨_, y, e, ⟨a', b', rfl, h4⟩, h3⟩
theorem Dr.list_ok (d : Dr T) (M : LT T) (k : Nat) {x : D} (hx : CupD x) (most : Int) : ∃ x' rs, runs T (k+3) 21 [.ln x, .sh (.d (.int most))] = .ok (.d (eRs rs)) false [some x', none] ∧ CupD x' ∧ RowsOk rs := by
  obtain ⟨c0, c1, c2, c3, c4, c5, h, hc⟩ := d.roll
  obtain ⟨a, b, rfl, hb⟩ := hx
  obtain ⟨a', b', rs, e, h3, h4⟩ := sList M.h21 M.h19 h hc k a b most hb
  exact ⟨_, rs, e, ⟨a', b', rfl, h4⟩, h3⟩
/-! what _law_same says of a thing and itself -/
@[simp] theorem pl_5 (xs : List P) : pl 5 (.tuple xs) ↔ xs.length ≤ 16777216 ∧ ∀ x ∈ xs, pl 4 x := Iff.rfl
@[simp] theorem pl_4 (xs : List P) : pl 4 (.tuple xs) ↔ xs.length ≤ 16777216 ∧ ∀ x ∈ xs, pl 3 x := Iff.rfl
@[simp] theorem pl_3 (xs : List P) : pl 3 (.tuple xs) ↔ xs.length ≤ 16777216 ∧ ∀ x ∈ xs, pl 2 x := Iff.rfl
@[simp] theorem pl_2 (xs : List P) : pl 2 (.tuple xs) ↔ xs.length ≤ 16777216 ∧ ∀ x ∈ xs, pl 1 x := Iff.rfl
@[simp] theorem pl_1 (xs : List P) : pl 1 (.tuple xs) ↔ xs.length ≤ 16777216 ∧ ∀ x ∈ xs, pl 0 x := Iff.rfl
@[simp] theorem pl_int (n : Nat) (i : Int) : pl n (.int i) := by cases n <;> trivial
@[simp] theorem pl_str (n : Nat) (i : Str) : pl n (.str i) := by cases n <;> trivial
@[simp] theorem pl_bool (n : Nat) (i : Bool) : pl n (.bool i) := by cases n <;> trivial
@[simp] theorem pl_none (n : Nat) : pl n .none := by cases n <;> trivial
theorem pl_tup {n : Nat} {xs : List P} (h : xs.length ≤ 16777216) (h2 : ∀ x ∈ xs, pl n x) : pl (n + 1) (.tuple xs) := ⟨h, h2⟩
theorem pl_up : ∀ {n : Nat} {x : P}, pl n x → pl (n + 1) x
  | 0, x, h => by cases x <;> first | trivial | exact h.elim
  | n + 1, .tuple xs, h => ⟨h.1, fun y hy => pl_up (h.2 y hy)⟩
  | n + 1, .none, _ => trivial
  | n + 1, .bool _, _ => trivial
  | n + 1, .int _, _ => trivial
  | n + 1, .str _, _ => trivial
  | n + 1, .list _, h => h.elim
  | n + 1, .dict _, h => h.elim
theorem pl_eR (n : Nat) (r : R2) : pl (n + 1) (eR r) := ⟨by simp, fun x hx => by simp at hx; rcases hx with rfl | rfl <;> simp⟩
theorem pl_eRs (n : Nat) {rs : List R2} (h : rs.length ≤ 16777216) : pl (n + 2) (eRs rs) := ⟨by simpa using h, fun x hx => by
  obtain ⟨r, _, rfl⟩ := List.mem_map.mp hx
  exact pl_eR n r⟩
end
end Lb

set_option maxRecDepth 100000
set_option maxHeartbeats 1000000
/-! Le: what the plain laws share: states, loops, orders. -/
namespace Lb
open Mp PySem L2
def nxS : SR → Mp.Env
  | .nx ρ => ρ
  | _ => []
/-- the body of a loop that stands first -/
def loopB : Tss → Tss
  | .cons (.forS _ _ b) _ => b
  | .cons (.whl _ _ b) _ => b
  | _ => .nil
def loopC : Tss → Tm
  | .cons (.whl _ c _) _ => c
  | _ => .cst .none
/-- slots: so many, the cup's, free ones from f -/
structure GS (n c f : Nat) (ρ : Mp.Env) : Prop where
  len : ρ.length = n
  cup : ∃ x, ρ[c]? = some (.own false x) ∧ CupD x
  fr : ∀ j, f ≤ j → j < n → freeO ρ[j]? = true
theorem GS.set {n c f : Nat} {ρ : Mp.Env} (g : GS n c f ρ) {j : Nat} (hj : f ≤ j ∧ c < j) {s : Sl} (hs : freeS s = true) : GS n c f (ρ.set j s) := by
  obtain ⟨x, h1, h2⟩ := g.cup
  refine ⟨by rw [List.length_set]; exact g.len, ⟨x, by rw [set_get, if_neg (by omega)]; exact h1, h2⟩, fun i h3 h4 => ?_⟩
  rw [set_get]
  split
  · rw [if_pos (by rw [g.len]; exact h4)]; exact hs
  · exact g.fr i h3 h4
theorem GS.setC {n c f : Nat} {ρ : Mp.Env} (g : GS n c f ρ) (hc : c < f ∧ c < n) {x : D} (hx : CupD x) : GS n c f (ρ.set c (.own false x)) := by
  refine ⟨by rw [List.length_set]; exact g.len, ⟨x, by rw [set_get, if_pos rfl, if_pos (by rw [g.len]; exact hc.2)], hx⟩, fun i h3 h4 => ?_⟩
  rw [set_get, if_neg (by omega)]
  exact g.fr i h3 h4
/-- a mutable slot above the free ones -/
theorem GS.up {n c f f' : Nat} {ρ : Mp.Env} (g : GS n c f ρ) (h : f ≤ f') : GS n c f' ρ := ⟨g.len, g.cup, fun j h1 h2 => g.fr j (by omega) h2⟩
/-! ### comprehensions with one slot of their own, over any slots -/
theorem wipe1 (ρ : Mp.Env) (j : Nat) : wipeE ρ [j] = ρ.set j .un := rfl
theorem comp_filter1 {α : Type} {j : Nat} {x : Str} {c : Mp.Env → R Bool} {e : Mp.Env → R RV} (enc : α → D) (p : α → Bool) (f : α → P) {ρ : Mp.Env} {xs : List α} (hj : j < ρ.length)
    (h : ∀ r ∈ xs, c (ρ.set j (.val (enc r))) = .ok (p r) (ρ.set j (.val (enc r))) ∧ (p r = true → e (ρ.set j (.val (enc r))) = .ok (.sh (.d (f r))) (ρ.set j (.val (enc r))))) :
    compE [j] (.nm j x) c e (xs.map enc) ρ = .ok (.fr (.d (.list ((xs.filter p).map f)))) ρ := by
  refine comp_filter enc p f fun r hr => ?_
  obtain ⟨h1, h2⟩ := h r hr
  rw [wipe1]
  have hf : freeO (ρ.set j .un)[j]? = true := by rw [set_get, if_pos rfl, if_pos hj]; rfl
  unfold turnOk
  rw [setTg_nm, if_pos hf, List.set_set]
  simp only [h1]
  cases hp : p r with
  | false => exact ⟨by simp, by rw [wipe1, List.set_set]⟩
  | true =>
    simp only [h2 hp]
    exact ⟨rfl, by simp, by rw [wipe1, List.set_set]⟩
theorem comp_map1 {α : Type} {j : Nat} {x : Str} {c : Mp.Env → R Bool} {e : Mp.Env → R RV} (enc : α → D) (f : α → P) {ρ : Mp.Env} {xs : List α} (hj : j < ρ.length)
    (hc : ∀ ρ, c ρ = .ok true ρ) (h : ∀ r ∈ xs, e (ρ.set j (.val (enc r))) = .ok (.sh (.d (f r))) (ρ.set j (.val (enc r)))) :
    compE [j] (.nm j x) c e (xs.map enc) ρ = .ok (.fr (.d (.list (xs.map f)))) ρ := by
  have := comp_filter1 (c := c) (e := e) (x := x) enc (fun _ => true) f hj (fun r hr => ⟨hc _, fun _ => h r hr⟩)
  rw [List.filter_eq_self.mpr (fun _ _ => rfl)] at this
  exact this
@[simp] theorem seqI_sR (rs : List R2) (ρ : Mp.Env) : seqI (.sh (.d (.list (rs.map eR)))) ρ = .ok (rs.map fun r => D.d (eR r)) ρ := by
  show R.ok ((rs.map eR).map D.d) ρ = _
  rw [List.map_map]; rfl
@[simp] theorem tup_eR (rs : List R2) : PyData.tuple (rs.map eR) = eRs rs := rfl
@[simp] theorem lstR_eRs (rs : List R2) (ρ : Mp.Env) : lstR (.sh (.d (eRs rs))) ρ = .ok (.fr (.d (.list (rs.map eR)))) ρ := rfl
@[simp] theorem revP_eR (r : R2) : revP (eR r) = some (eI [r.2, r.1]) := rfl
theorem small_len {n : Nat} (h : n ≤ 1000000) : smallR (n : Int) = true ∧ n ≤ 16777216 := ⟨by unfold smallR; simp; omega, by omega⟩
theorem eqP_lnil (xs : List P) : eqP (.list xs) (.list []) = some (decide (xs = [])) := by
  cases xs with
  | nil => rfl
  | cons a l =>
    have : eqP (.list (a :: l)) (.list []) = some false := by
      unfold eqP
      rw [if_pos (by show min _ 1 ≤ 64; omega)]
      rfl
    rw [this]; simp
/-! ### loops that stand first -/
theorem svs_for {Φ : Fs} {tg : Tg} {it : Tit} {b rest : Tss} {ρ ρ1 ρ2 : Mp.Env} {l : List D} (h : evi Φ it ρ = .ok l ρ1) (h2 : forL tg (svs Φ b) l ρ1 = .nx ρ2) : svs Φ (.cons (.forS tg it b) rest) ρ = svs Φ rest ρ2 := by
  show seqS (sOf (evi Φ it ρ) fun l ρ1 => forL tg (svs Φ b) l ρ1) (svs Φ rest) = _
  rw [h]
  show seqS (forL tg (svs Φ b) l ρ1) (svs Φ rest) = _
  rw [h2, seqS_nx]
theorem svs_whl {Φ : Fs} {n : Nat} {c : Tm} {b rest : Tss} {ρ ρ2 : Mp.Env} (h2 : whlL (ev Φ c).t (svs Φ b) n ρ = .nx ρ2) : svs Φ (.cons (.whl n c b) rest) ρ = svs Φ rest ρ2 := by
  show seqS (whlL (ev Φ c).t (svs Φ b) n ρ) (svs Φ rest) = _
  rw [h2, seqS_nx]
/-! ### orders -/
theorem plc_lt (o : Int) (a b : R2) : plc o a < plc o b ↔ if o = 0 then a.1 < b.1 else a.2 < b.2 ∨ (a.2 = b.2 ∧ a.1 < b.1) := by
  unfold plc
  split <;> simp [List.cons_lt_cons_iff]
theorem leR_iff (o : Int) (a b : R2) : leR o a b = true ↔ if o = 0 then a.1 ≤ b.1 else a.2 < b.2 ∨ (a.2 = b.2 ∧ a.1 ≤ b.1) := by
  unfold leR
  have := plc_lt o b a
  split <;> simp_all <;> omega
theorem leR_tr (o : Int) (a b c : R2) : leR o a b = true → leR o b c = true → leR o a c = true := by
  rw [leR_iff, leR_iff, leR_iff]
  split <;> omega
theorem leR_tot (o : Int) (a b : R2) : (leR o a b || leR o b a) = true := by
  rw [Bool.or_eq_true, leR_iff, leR_iff]
  split <;> omega
theorem leR_key {o : Int} {a b : R2} : leR o a b = true → leR o b a = true → a.1 = b.1 := by
  rw [leR_iff, leR_iff]
  split <;> omega
theorem ordR_sorted (o : Int) (rs : List R2) : (ordR o rs).Pairwise fun a b => leR o a b = true := by
  unfold ordR
  rw [isortB_eq (leR_tr o) (leR_tot o)]
  exact List.pairwise_mergeSort (leR_tr o) (leR_tot o) rs
theorem ordR_perm (o : Int) (rs : List R2) : (ordR o rs).Perm rs := isortB_perm _ _
theorem ordR_length (o : Int) (rs : List R2) : (ordR o rs).length = rs.length := isortB_len _ _
theorem mem_ordR {o : Int} {rs : List R2} {r : R2} : r ∈ ordR o rs ↔ r ∈ rs := (ordR_perm o rs).mem_iff
theorem sorted_uniq {o : Int} : ∀ {l1 l2 : List R2}, l1.Perm l2 → l1.Pairwise (fun a b => leR o a b = true) → l2.Pairwise (fun a b => leR o a b = true) → (∀ a ∈ l1, ∀ b ∈ l1, a.1 = b.1 → a = b) → l1 = l2
  | [], l2, hp, _, _, _ => (List.Perm.nil_eq hp)
  | a :: l1, l2, hp, h1, h2, hk => by
    cases l2 with
    | nil => exact absurd hp.symm.nil_eq (by simp)
    | cons b l2 =>
      have hb : b ∈ a :: l1 := hp.mem_iff.mpr List.mem_cons_self
      have ha : a ∈ b :: l2 := hp.mem_iff.mp List.mem_cons_self
      have rf (x : R2) : leR o x x = true := by rw [leR_iff]; split <;> omega
      have hab : leR o a b = true := by
        rcases List.mem_cons.mp hb with h | h
        · rw [h]; exact rf a
        · exact (List.pairwise_cons.mp h1).1 b h
      have hba : leR o b a = true := by
        rcases List.mem_cons.mp ha with h | h
        · rw [h]; exact rf b
        · exact (List.pairwise_cons.mp h2).1 a h
      have e : a = b := hk a List.mem_cons_self b hb (leR_key hab hba)
      subst e
      rw [sorted_uniq (hp.cons_inv) (List.pairwise_cons.mp h1).2 (List.pairwise_cons.mp h2).2 (fun x hx y hy => hk x (List.mem_cons_of_mem _ hx) y (List.mem_cons_of_mem _ hy))]
/-- rows with keys of their own -/
def KeyU (l : List R2) : Prop := l.Pairwise fun p q => p.1 < q.1
theorem KeyU.inj {l : List R2} (h : KeyU l) : ∀ a ∈ l, ∀ b ∈ l, a.1 = b.1 → a = b := by
  unfold KeyU at h
  induction h with
  | nil => simp
  | cons hx _ ih =>
    intro a ha b hb e
    rcases List.mem_cons.mp ha with rfl | ha' <;> rcases List.mem_cons.mp hb with rfl | hb'
    · rfl
    · have := hx b hb'; omega
    · have := hx a ha'; omega
    · exact ih a ha' b hb' e
theorem KeyU.nodup {l : List R2} (h : KeyU l) : l.Nodup := h.imp fun h e => by subst e; omega
theorem KeyU.filter {l : List R2} (h : KeyU l) (p : R2 → Bool) : KeyU (l.filter p) := List.Pairwise.sublist List.filter_sublist h
/-- the least row first -/
theorem ordR_least {o : Int} {l : List R2} (h : KeyU l) {m : R2} (hm : m ∈ l) (hle : ∀ x ∈ l, leR o m x = true) : ordR o l = m :: ordR o (l.filter fun x => decide (x ≠ m)) := by
  have hp : l.Perm (m :: l.filter fun x => decide (x ≠ m)) := by
    have h1 := List.perm_cons_erase hm
    rw [h.nodup.erase_eq_filter] at h1
    have e : (l.filter fun x => decide (x ≠ m)) = l.filter (fun x => x != m) := List.filter_congr (fun x _ => by by_cases hx : x = m <;> simp [hx])
    rw [e]
    exact h1
  have hk := h.inj
  refine sorted_uniq (o := o) ?_ (ordR_sorted o l) ?_ ?_
  · exact (ordR_perm o l).trans (hp.trans ((ordR_perm o _).symm.cons m))
  · refine List.pairwise_cons.mpr ⟨fun x hx => ?_, ordR_sorted o _⟩
    rw [mem_ordR] at hx
    exact hle x (List.mem_filter.mp hx).1
  · intro a ha b hb e
    exact hk a (mem_ordR.mp ha) b (mem_ordR.mp hb) e
end Lb

set_option maxRecDepth 100000
set_option maxHeartbeats 1000000
/-! Lp: pages backward. -/
namespace Lb
open Mp PySem L2
theorem comp_none {own : List Nat} {tg : Tg} {c : Mp.Env → R Bool} {e : Mp.Env → R RV} (G : Mp.Env → Prop) {ρ : Mp.Env} {xs : List D} (h0 : G (wipeE ρ own))
    (hs : ∀ x ∈ xs, ∀ ρ, G ρ → ∃ ρ1, setTg tg x ρ = some ρ1 ∧ ∃ ρ2, c ρ1 = .ok false ρ2 ∧ G (wipeE ρ2 own)) : ∃ ρ', compE own tg c e xs ρ = .ok (.fr (.d (.list []))) ρ' := by
  have key : ∀ (xs : List D) (ρ : Mp.Env), (∀ x ∈ xs, ∀ ρ, G ρ → ∃ ρ1, setTg tg x ρ = some ρ1 ∧ ∃ ρ2, c ρ1 = .ok false ρ2 ∧ G (wipeE ρ2 own)) → G ρ → ∃ ρ', compL own tg c e xs [] ρ = .ok [] ρ' := by
    intro xs
    induction xs with
    | nil => intro ρ _ _; exact ⟨ρ, rfl⟩
    | cons x xs ih =>
      intro ρ hs g
      obtain ⟨ρ1, h1, ρ2, h2, g2⟩ := hs x List.mem_cons_self ρ g
      obtain ⟨ρ', h3⟩ := ih (wipeE ρ2 own) (fun y hy => hs y (List.mem_cons_of_mem _ hy)) g2
      refine ⟨ρ', ?_⟩
      unfold compL
      rw [h1]
      simp only [h2]
      exact h3
  obtain ⟨ρ', h⟩ := key xs _ hs h0
  exact ⟨backE ρ ρ' own, by unfold compE; rw [h]⟩
/-! ### places in an order -/
def plt (o : Int) (a b : R2) : Bool := decide (plc o a < plc o b)
theorem ordR_strict {o : Int} {rs : List R2} (h : KeyU rs) : (ordR o rs).Pairwise fun a b => plt o a b = true := by
  have hn : (ordR o rs).Nodup := (ordR_perm o rs).nodup_iff.mpr h.nodup
  have hk : (ordR o rs).Pairwise fun a b => a.1 ≠ b.1 := by
    have h1 : (ordR o rs).Pairwise fun a b => a ≠ b := hn
    refine (List.Pairwise.and_mem.mp h1).imp fun ⟨ha, hb, hab⟩ e => hab (h.inj _ (mem_ordR.mp ha) _ (mem_ordR.mp hb) e)
  refine ((ordR_sorted o rs).and hk).imp fun {a b} ⟨h1, h2⟩ => ?_
  rw [leR_iff] at h1
  unfold plt
  rw [decide_eq_true_eq, plc_lt]
  split at h1 <;> rename_i ho <;> simp [ho] <;> omega
theorem plt_irr (o : Int) (a : R2) : plt o a a = false := by
  unfold plt
  rw [decide_eq_false_iff_not, plc_lt]
  split <;> omega
theorem plt_tr {o : Int} {a b c : R2} : plt o a b = true → plt o b c = true → plt o a c = true := by
  unfold plt
  simp only [decide_eq_true_eq, plc_lt]
  split <;> omega
/-- ahead of a row stand the rows ahead of its place -/
theorem filter_take {o : Int} : ∀ {l : List R2}, l.Pairwise (fun a b => plt o a b = true) → ∀ (i : Nat) (x : R2), l[i]? = some x → l.filter (fun y => plt o y x) = l.take i
  | [], _, i, x, h => by simp at h
  | a :: l, hp, 0, x, h => by
    have : a = x := by simpa using h
    subst this
    obtain ⟨h1, _⟩ := List.pairwise_cons.mp hp
    rw [List.take_zero, List.filter_eq_nil_iff]
    intro y hy hlt
    rcases List.mem_cons.mp hy with rfl | hy
    · rw [plt_irr] at hlt; cases hlt
    · have := plt_tr (h1 y hy) hlt
      rw [plt_irr] at this; cases this
  | a :: l, hp, i + 1, x, h => by
    obtain ⟨h1, h2⟩ := List.pairwise_cons.mp hp
    have h' : l[i]? = some x := by simpa using h
    have hx : x ∈ l := List.mem_of_getElem? h'
    rw [List.filter_cons_of_pos (p := fun y => plt o y x) (h1 x hx), filter_take h2 i x h', List.take_succ_cons]
/-- what stands ahead of a mark is a beginning -/
theorem filter_begin {α : Type} (p : α → Bool) : ∀ l : List α, l.Pairwise (fun a b => p b = true → p a = true) → l.filter p = l.take (l.filter p).length
  | [], _ => rfl
  | a :: l, h => by
    obtain ⟨h1, h2⟩ := List.pairwise_cons.mp h
    cases ha : p a with
    | true => rw [List.filter_cons_of_pos ha, List.length_cons, List.take_succ_cons, ← filter_begin p l h2]
    | false =>
      have : l.filter p = [] := List.filter_eq_nil_iff.mpr fun x hx hp => by
        have := h1 x hx hp
        rw [ha] at this
        cases this
      rw [List.filter_cons_of_neg (by rw [ha]; decide), this]
      rfl
/-! ### slices -/
theorem cutL_hd' {α : Type} (xs : List α) (b : Nat) : cutL xs none (some (b : Int)) = xs.take b := by
  have := cutL_nn xs 0 b
  simpa [cutL, HT.sIx] using this
theorem cutL_tl' {α : Type} (xs : List α) (a : Nat) : cutL xs (some (a : Int)) none = xs.drop a := by
  unfold cutL
  rw [HT.sIx_nat]
  show (xs.drop (min a xs.length)).take (xs.length - min a xs.length) = xs.drop a
  by_cases h : a ≤ xs.length
  · rw [Nat.min_eq_left h, List.take_of_length_le (by rw [List.length_drop]; omega)]
  · rw [Nat.min_eq_right (by omega), List.drop_eq_nil_of_le (Nat.le_refl _), List.drop_eq_nil_of_le (by omega)]
    simp
theorem atI_last {α : Type} (xs : List α) (h : xs ≠ []) : atI xs (-1) = xs.getLast? := by
  have hp : 0 < xs.length := List.length_pos_iff.mpr h
  have e := atI_nat xs (xs.length - 1)
  rw [List.getLast?_eq_getElem?, ← e]
  have e2 : (-1 : Int) + (xs.length : Int) = ((xs.length - 1 : Nat) : Int) := by omega
  unfold atI ixN
  simp [e2]
  rw [if_pos (by omega), if_pos (by omega)]
theorem eqP_rs0 (a : List R2) : eqP (eRs a) (.tuple []) = some (decide (a = [])) := eqP_eRs a []
@[simp] theorem revP_eRs (rs : List R2) : revP (eRs rs) = some (eRs rs.reverse) := by
  show some (PyData.tuple (rs.map eR).reverse) = _
  rw [← List.map_reverse]; rfl
@[simp] theorem isNoneP_eR (r : R2) : isNoneP (eR r) = false := rfl
theorem eRs_nil : eRs [] = .tuple [] := rfl
/-- a page ahead of place e, so many rows at most -/
def bpg (z : Nat) (l : List R2) (e : Nat) : List R2 := (l.drop (e - z)).take (e - (e - z))
theorem bpg_rev {z : Nat} {l : List R2} {g : Nat} (hg : g ≤ l.length) : (bpg z l (l.length - g)).reverse = (l.reverse.drop g).take z := by
  unfold bpg
  rw [List.reverse_take, List.reverse_drop, List.length_drop, List.drop_take]
  have e1 : l.length - (l.length - g - z) - (l.length - g - (l.length - g - z)) = g := by omega
  rw [e1]
  by_cases h : z ≤ l.length - g
  · congr 1; omega
  · rw [List.take_of_length_le (by rw [List.length_drop, List.length_reverse]; omega), List.take_of_length_le (by rw [List.length_drop, List.length_reverse]; omega)]
/-- whether a row is ahead of a mark, with the mark's own place or not -/
def ahe (o m s : Int) (a r : R2) : Bool := decide (mkR o m r < mkR o m a) || (decide (mkR o m r = mkR o m a) && decide (s = 1))
def ein (o m s : Int) (a : R2) (rs : List R2) : Nat := (rs.filter (ahe o m s a)).length
def IvE (o m s : Int) (a : R2) (rs : List R2) (done : List R2) (ρ : Mp.Env) : Prop := ∃ s7 s8, ρ = [.val (.d (.int o)), .val (.d (.int m)), .val (.d (.int s)), .val (.d (eR a)), .val (.d (eRs rs)), .val (.d (eI (mkR o m a))), .val (.d (.int ((done.filter (ahe o m s a)).length : Int))), s7, s8] ∧ freeS s7 = true ∧ freeS s8 = true
variable {T : Nat → Option Fd} (M : LT T)
include M
theorem s443 (k : Nat) (o m s : Int) (a : R2) (rs : List R2) : runs T (k+3) 443 [.sh (.d (.int o)), .sh (.d (.int m)), .sh (.d (.int s)), .sh (.d (eR a)), .sh (.d (eRs rs))] = .ok (.d (.int (ein o m s a rs))) false [none, none, none, none, none] := by
  rw [runs_eq M.h443]
  simp [b443, s80 M]
  generalize hf : forL _ _ _ _ = z
  obtain ⟨ρ', rfl, s7, s8, rfl, _⟩ : ∃ ρ', z = .nx ρ' ∧ IvE o m s a rs rs ρ' := by
    rw [← hf]
    refine for_iv (fun r : R2 => D.d (eR r)) (IvE o m s a rs) ⟨.un, .un, rfl, rfl, rfl⟩ fun done x rest ρ e h => ?_
    obtain ⟨s7, s8, rfl, f7, f8⟩ := h
    simp [f7, f8, s80 M, ltP_eI, eqP_eI]
    refine ⟨.val (.d (eR x)), .val (.d (eI (mkR o m x))), ?_, rfl, rfl⟩
    by_cases h : mkR o m x < mkR o m a ∨ mkR o m x = mkR o m a ∧ s = 1
    · have h' : ahe o m s a x = true := by simpa [ahe] using h
      simp [h, List.filter_append, List.filter_cons, h']
    · have h' : ahe o m s a x = false := by simpa [ahe] using h
      simp [h, List.filter_append, List.filter_cons, h']
  simp [ein]
theorem s444 (k : Nat) (o : Int) (z : Nat) (rs : List R2) (e : Nat) : runs T (k+3) 444 [.sh (.d (.int o)), .sh (.d (.int (z : Int))), .sh (.d (eRs rs)), .sh (.d (.int (e : Int)))] = .ok (.d (eRs (bpg z (ordR o rs) e))) false [none, none, none, none] := by
  rw [runs_eq M.h444]
  have h := cutL_nn (ordR o rs) (e - z) e
  have h2 : (max 0 ((e : Int) - (z : Int))) = ((e - z : Nat) : Int) := by omega
  have h3 : (if z < e then (e : Int) - (z : Int) else 0) = ((e - z : Nat) : Int) := by split <;> omega
  simp [b444, s71 M]
  rw [h3, h]
  rfl
theorem s447 (k : Nat) {o m s : Int} {a : R2} {rs : List R2} (ho : isO o) (hm : 1 ≤ m ∧ m ≤ 2) (hs : 0 ≤ s ∧ s ≤ 1) (ha : Rw a) (h : RowsOk rs) : runs T (k+5) 447 [.sh (.d (.int o)), .sh (.d (.int m)), .sh (.d (.int s)), .sh (.d (eR a)), .sh (.d (eRs rs))] = .ok (.d (.int (ein o m s a rs))) false [none, none, none, none, none] := by
  rw [runs_eq M.h447]
  simp [b447, s72 M, fitsW_int ho, s1 M.h1, fitsW_int hm, fitsW_int hs, s73 M, fitsRow_eR ha, need5 M h, s443 M]
theorem s448 (k : Nat) {o : Int} {z : Nat} {a : R2} {rs : List R2} (ho : isO o) (hz : 1 ≤ z ∧ z ≤ 3) (ha : Rw a) (h : RowsOk rs) : runs T (k+5) 448 [.sh (.d (.int o)), .sh (.d (eRs rs)), .sh (.d (eR a)), .sh (.d (.int (z : Int)))] = .ok (.d (eRs (bpg z (ordR o rs) (ein o 2 0 a rs)))) false [none, none, none, none] := by
  rw [runs_eq M.h448]
  simp [b448, s72 M, fitsW_int ho, s85 M, fitsW_int (show 1 ≤ (z : Int) ∧ (z : Int) ≤ 3 by omega), s73 M, fitsRow_eR ha, need5 M h, s443 M, s444 M]
/-- where pages backward are: rows got, the last one, over or not -/
def eL : Option R2 → P
  | some r => eR r
  | none => .none
def sdP (got : List R2) (last : Option R2) (over : Int) : P := .tuple [eRs got, eL last, .int over]
theorem s445 (k : Nat) (got page : List R2) (last : Option R2) (over : Int) (z : Nat) (hl : got.length + page.length ≤ 16777216) : runs T (k+1) 445 [.sh (.d (sdP got last over)), .sh (.d (eRs page)), .sh (.d (.int (z : Int)))] = .ok (.d (sdP (got ++ page) (if page = [] then last else page.getLast?) (if page.length < z then 1 else 0))) false [none, none, none] := by
  rw [runs_eq M.h445]
  by_cases hp : page = []
  · subst hp
    simp [b445, sdP, eqP_rs0, show got.length ≤ 16777216 by simpa using hl]
    trace_state
  · have e := atI_last page hp
    obtain ⟨r, hr⟩ : ∃ r, page.getLast? = some r := ⟨_, List.getLast?_eq_some_getLast hp⟩
    simp [b445, sdP, hl, eqP_rs0, hp, e, hr]
    rfl
omit M in
/-- how many rows stand ahead of the last row got -/
theorem ein_last {o : Int} (ho : isO o) {rs : List R2} (h : KeyU rs) {g : Nat} (hg : 0 < g ∧ g ≤ rs.length) {x : R2} (hx : (ordR o rs).reverse[g - 1]? = some x) : ein o 2 0 x rs = rs.length - g := by
  have e1 : ein o 2 0 x rs = ((ordR o rs).filter (fun y => plt o y x)).length := by
    unfold ein
    rw [← List.countP_eq_length_filter, ← List.countP_eq_length_filter, ← (ordR_perm o rs).countP_eq]
    congr 1
    funext y
    simp [ahe, plt, mkR]
  have hl := ordR_length o rs
  rw [e1, filter_take (ordR_strict h) (rs.length - g) x ?_, List.length_take, hl]
  · omega
  · rw [List.getElem?_reverse (by rw [hl]; omega), hl] at hx
    rw [← hx]
    congr 1
    omega
theorem s446 (k : Nat) {o : Int} (ho : isO o) {rs : List R2} (h : RowsOk rs) {z g : Nat} (hz : 1 ≤ z ∧ z ≤ 3) (hg : g ≤ rs.length) (over : Int) : runs T (k+4) 446 [.sh (.d (.int o)), .sh (.d (.int (z : Int))), .sh (.d (eRs rs)), .sh (.d (sdP ((ordR o rs).reverse.take g) ((ordR o rs).reverse.take g).getLast? over))] = .ok (.d (sdP ((ordR o rs).reverse.take (g + z)) ((ordR o rs).reverse.take (g + z)).getLast? (if rs.length - g < z then 1 else 0))) false [none, none, none, none] := by
  rw [runs_eq M.h446]
  have hl := ordR_length o rs
  have hL := h.len
  have hb := bpg_rev (z := z) (l := ordR o rs) (g := g) (by omega)
  rw [hl] at hb
  have e445 := s445 M (k + 2) ((ordR o rs).reverse.take g) (((ordR o rs).reverse.drop g).take z) ((ordR o rs).reverse.take g).getLast? over z (by simp [hl]; omega)
  have ea : (ordR o rs).reverse.take g ++ ((ordR o rs).reverse.drop g).take z = (ordR o rs).reverse.take (g + z) := by rw [List.take_add]
  have eb : (((ordR o rs).reverse.drop g).take z).length < z ↔ rs.length - g < z := by simp [hl]; omega
  have ec : (if ((ordR o rs).reverse.drop g).take z = [] then ((ordR o rs).reverse.take g).getLast? else (((ordR o rs).reverse.drop g).take z).getLast?) = ((ordR o rs).reverse.take (g + z)).getLast? := by
    rw [← ea]
    split
    · rename_i e; rw [e, List.append_nil]
    · rename_i e
      rw [List.getLast?_append]
      obtain ⟨x, hx⟩ : ∃ x, (((ordR o rs).reverse.drop g).take z).getLast? = some x := ⟨_, List.getLast?_eq_some_getLast e⟩
      rw [hx]; rfl
  rw [ec, ea] at e445
  simp only [eb] at e445
  have es (e : Nat) : runs T (k + 3) 444 [.sh (.d (.int o)), .sh (.d (.int (z : Int))), .sh (.d (eRs rs)), .sh (.d (.int (e : Int)))] = .ok (.d (eRs (bpg z (ordR o rs) e))) false [none, none, none, none] := s444 M k o z rs e
  by_cases h0 : g = 0
  · subst h0
    have es := es rs.length
    rw [Nat.sub_zero] at hb
    simp only [sdP, List.take_zero, List.getLast?_nil, eL] at e445 ⊢
    simp at e445
    simp [b446, es, hb, e445]
  · obtain ⟨x, hx⟩ : ∃ x, (ordR o rs).reverse[g - 1]? = some x := ⟨_, List.getElem?_eq_getElem (by rw [List.length_reverse, hl]; omega)⟩
    have hlast : ((ordR o rs).reverse.take g).getLast? = some x := by
      rw [List.getLast?_eq_getElem?, List.length_take, List.length_reverse, hl, Nat.min_eq_left hg, List.getElem?_take, if_pos (by omega)]
      exact hx
    have ee := ein_last ho h.up ⟨by omega, hg⟩ hx
    have es := es (rs.length - g)
    rw [hlast] at e445 ⊢
    simp only [sdP, eL] at e445 ⊢
    simp [b446, s443 M, ee, es, hb, e445]
omit M in
/-- the first pages of a line -/
def pgj (z : Nat) (l : List R2) (j : Nat) : List (List R2) := (List.range j).map fun k => (l.drop (k * z)).take z
/-- the loop's slots behind j pages -/
def bst (o : Int) (z : Nat) (rs : List R2) (j : Nat) (s5 : Sl) : Mp.Env :=
  [.val (.d (.int o)), .val (.d (eRs rs)), .val (.d (.int (z : Int))), .val (.d (sdP ((ordR o rs).reverse.take (j * z)) ((ordR o rs).reverse.take (j * z)).getLast? (if j ≤ rs.length / z then 0 else 1))), .own false (.d (.list ((pgj z (ordR o rs).reverse j).map eRs))), s5]
def whT : Tss → Tss
  | .cons (.whl n c b) _ => .cons (.whl n c b) .nil
  | _ => .nil
theorem b449C (k : Nat) (o : Int) (z : Nat) (rs : List R2) (j : Nat) (s5 : Sl) : (ev (runs T k) (loopC (dropS 4 b449.body))).t (bst o z rs j s5) = .ok (decide (j ≤ rs.length / z)) (bst o z rs j s5) := by
  by_cases h : j ≤ rs.length / z <;> simp [b449, loopC, dropS, bst, sdP, h]
theorem b449B (k : Nat) {o : Int} (ho : isO o) {rs : List R2} (h : RowsOk rs) {z : Nat} (hz : 1 ≤ z ∧ z ≤ 3) {j : Nat} (hj : j ≤ rs.length / z) {s5 : Sl} (f5 : freeS s5 = true) : ∃ s5', svs (runs T (k + 4)) (loopB (dropS 4 b449.body)) (bst o z rs j s5) = .nx (bst o z rs (j + 1) s5') ∧ freeS s5' = true := by
  have hjz : j * z ≤ rs.length := Nat.le_trans (Nat.mul_le_mul_right z hj) (Nat.div_mul_le_self _ _)
  have hl := ordR_length o rs
  have hL := h.len
  have e := s446 M k ho h (z := z) (g := j * z) hz hjz 0
  have ep : pgj z (ordR o rs).reverse (j + 1) = pgj z (ordR o rs).reverse j ++ [((ordR o rs).reverse.drop (j * z)).take z] := by
    unfold pgj; rw [List.range_succ, List.map_append]; rfl
  have ed : ((ordR o rs).reverse.take (j * z + z)).drop (j * z) = ((ordR o rs).reverse.drop (j * z)).take z := by
    rw [List.drop_take]; congr 1; omega
  have eo : (if rs.length - j * z < z then (1 : Int) else 0) = if j + 1 ≤ rs.length / z then 0 else 1 := by
    have h1 := Nat.div_add_mod rs.length z
    have h2 := Nat.mod_lt rs.length (show z > 0 by omega)
    by_cases hq : j + 1 ≤ rs.length / z
    · have : (j + 1) * z ≤ rs.length := Nat.le_trans (Nat.mul_le_mul_right z hq) (Nat.div_mul_le_self _ _)
      rw [Nat.succ_mul] at this
      rw [if_pos hq, if_neg (by omega)]
    · have : j = rs.length / z := by omega
      rw [if_neg hq, if_pos (by rw [this, Nat.mul_comm]; omega)]
  have em : min (j * z) rs.length = j * z := Nat.min_eq_left hjz
  have hc := cutL_tl' ((ordR o rs).reverse.take (j * z + z)) (j * z)
  rw [ed, Int.natCast_mul] at hc
  have hpl : (pgj z (ordR o rs).reverse j).length < 16777216 := by
    have h1 : rs.length / z ≤ rs.length := Nat.div_le_self _ _
    simp [pgj]; omega
  have ej : (j + 1) * z = j * z + z := Nat.succ_mul j z
  rw [eo] at e
  refine ⟨.val (.d (sdP ((ordR o rs).reverse.take (j * z + z)) ((ordR o rs).reverse.take (j * z + z)).getLast? (if j + 1 ≤ rs.length / z then 0 else 1))), ?_, rfl⟩
  unfold bst
  rw [if_pos hj, ep, ej]
  simp only [sdP] at e ⊢
  simp [b449, loopB, dropS, e, f5, hl, em, hc, hpl]
theorem s449 (k : Nat) {o : Int} (ho : isO o) {rs : List R2} (h : RowsOk rs) {z : Nat} (hz : 1 ≤ z ∧ z ≤ 3) : runs T (k+5) 449 [.sh (.d (.int o)), .sh (.d (eRs rs)), .sh (.d (.int (z : Int)))] = .ok (.d (.tuple ((pgs z (ordR o rs).reverse).map eRs))) false [none, none, none] := by
  rw [runs_eq M.h449, if_pos (show [Arg.sh (D.d (PyData.int o)), Arg.sh (D.d (eRs rs)), Arg.sh (D.d (PyData.int (z : Int)))].length = b449.np from rfl)]
  have hL := h.len
  have h1 : svs (runs T (k + 4)) (takeS 4 b449.body) (Mp.start b449.ns [.sh (.d (.int o)), .sh (.d (eRs rs)), .sh (.d (.int (z : Int)))]) = .nx (bst o z rs 0 .un) := by
    simp [b449, takeS, s72 M, fitsW_int ho, need5 M h, s85 M, fitsW_int (show 1 ≤ (z : Int) ∧ (z : Int) ≤ 3 by omega), Mp.start, bst, pgj, sdP, eL, eRs_nil]
  have hN : rs.length / z ≤ rs.length := Nat.div_le_self _ _
  obtain ⟨ρ2, e2, s5, f5, rfl⟩ := whlL_fuel (c := (ev (runs T (k + 4)) (loopC (dropS 4 b449.body))).t) (b := svs (runs T (k + 4)) (loopB (dropS 4 b449.body))) (fun n ρ => ∃ j s5, j + n = rs.length / z + 1 ∧ freeS s5 = true ∧ ρ = bst o z rs j s5) (fun ρ => ∃ s5, freeS s5 = true ∧ ρ = bst o z rs (rs.length / z + 1) s5) (fun n ρ ⟨j, s5, hj, f5, hρ⟩ => by
    subst hρ
    by_cases hn : j ≤ rs.length / z
    · obtain ⟨s5', h1, h2⟩ := b449B M k ho h hz hn f5
      exact .inr ⟨_, by rw [b449C M, decide_eq_true hn], _, n - 1, .inl h1, by omega, j + 1, s5', by omega, h2, rfl⟩
    · have : j = rs.length / z + 1 := by omega
      subst this
      exact .inl ⟨_, by rw [b449C M, decide_eq_false hn], s5, f5, rfl⟩) (n := rs.length / z + 1) (ρ := bst o z rs 0 .un) (lt_fuel (by omega)) ⟨0, .un, by omega, rfl, rfl⟩
  have t1 : svs (runs T (k + 4)) (dropS 4 b449.body) (bst o z rs 0 .un) = svs (runs T (k + 4)) (dropS 5 b449.body) (bst o z rs (rs.length / z + 1) s5) := svs_whl e2
  rw [svs_split _ 4, h1, seqS_nx, t1]
  have hp : pgj z (ordR o rs).reverse (rs.length / z + 1) = pgs z (ordR o rs).reverse := by
    unfold pgj pgs; rw [List.length_reverse, ordR_length]
  unfold bst
  rw [hp]
  simp [b449, dropS]
end Lb

set_option maxRecDepth 100000
set_option maxHeartbeats 1000000
/-! O53: the own defs of law k53, its table (written by gen.py). -/
namespace Lb
open Mp PySem L2
/-- _law_right -/
def b452 : Fd := ⟨1, 14, (.cons (.setP [(1, "order"), (2, "size"), (3, "rows")] (.cons (.call 18 (.cons (.var 0 "cup") (.cons (.cst (.int 2)) .nil))) (.cons (.bin .add (.cst (.int 1)) (.call 18 (.cons (.var 0 "cup") (.cons (.cst (.int 3)) .nil)))) (.cons (.call 21 (.cons (.var 0 "cup") (.cons (.cst (.int 10)) .nil))) .nil)))) (.frz 1 (.frz 2 (.frz 3 (.cons (.set 4 "line" (.call 83 (.cons (.var 1 "order") (.cons (.var 3 "rows") .nil)))) (.frz 4 (.cons (.set 5 "row" (.call 19 (.cons (.var 0 "cup") (.cons (.bin .add (.var 4 "line") (.lst (.cons (.tup (.cons (.call 18 (.cons (.var 0 "cup") (.cons (.cst (.int 10)) .nil))) (.cons (.call 18 (.cons (.var 0 "cup") (.cons (.cst (.int 6)) .nil))) .nil))) .nil))) .nil)))) (.frz 5 (.cons (.set 6 "ahead" (.call 448 (.cons (.var 1 "order") (.cons (.var 3 "rows") (.cons (.var 5 "row") (.cons (.var 2 "size") .nil)))))) (.frz 6 (.cons (.set 7 "due" (.mx false (.var 2 "size") (.bi .len (.comp [("own", 8)] (.nm 8 "own") (.seq (.var 4 "line")) (.yes (.cmp .lt (.call 78 (.cons (.var 1 "order") (.cons (.var 8 "own") .nil))) (.call 78 (.cons (.var 1 "order") (.cons (.var 5 "row") .nil))))) (.var 8 "own"))))) (.cons (.ife (.bop true (.cons (.cmp .ne (.bi .len (.var 6 "ahead")) (.var 7 "due")) (.cons (.cmp .ne (.call 447 (.cons (.var 1 "order") (.cons (.cst (.int 2)) (.cons (.cst (.int 0)) (.cons (.var 5 "row") (.cons (.var 3 "rows") .nil)))))) (.call 76 (.cons (.var 1 "order") (.cons (.var 3 "rows") (.cons (.var 5 "row") .nil))))) .nil))) (.cons (.ret (.cst (.bool false))) .nil) .nil) (.cons (.ife (.cmp .gt (.var 7 "due") (.cst (.int 0))) (.cons (.set 9 "at" (.call 82 (.cons (.var 1 "order") (.cons (.cst (.int 2)) (.cons (.cst (.int 0)) (.cons (.ix (.var 6 "ahead") (.neg (.cst (.int 1)))) (.cons (.var 3 "rows") .nil))))))) (.frz 9 (.cons (.set 10 "page" (.call 86 (.cons (.var 1 "order") (.cons (.var 3 "rows") (.cons (.var 9 "at") (.cons (.var 2 "size") .nil)))))) (.frz 10 (.cons (.ife (.bop false (.cons (.cmp .in_ (.var 5 "row") (.var 4 "line")) (.cons (.notE (.call 20 (.cons (.tup (.cons (.sl (.var 10 "page") .no (.yes (.cst (.int 1)))) (.cons (.var 9 "at") .nil))) (.cons (.tup (.cons (.tup (.cons (.var 5 "row") .nil)) (.cons (.idx (.var 4 "line") (.var 5 "row")) .nil))) .nil)))) .nil))) (.cons (.ret (.cst (.bool false))) .nil) .nil) (.cons (.ife (.bop false (.cons (.cmp .ne (.var 10 "page") (.tup .nil)) (.cons (.cmp .ne (.call 448 (.cons (.var 1 "order") (.cons (.var 3 "rows") (.cons (.ix (.var 10 "page") (.cst (.int 0))) (.cons (.var 2 "size") .nil))))) (.var 6 "ahead")) .nil))) (.cons (.ret (.cst (.bool false))) .nil) .nil) .nil)))))) .nil) (.cons (.set 11 "mark" (.bin .add (.cst (.int 1)) (.call 18 (.cons (.var 0 "cup") (.cons (.cst (.int 2)) .nil))))) (.frz 11 (.cons (.forS (.nm 12 "same") (.seq (.tup (.cons (.cst (.int 0)) (.cons (.cst (.int 1)) .nil)))) (.cons (.ife (.notE (.call 20 (.cons (.call 447 (.cons (.var 1 "order") (.cons (.var 11 "mark") (.cons (.var 12 "same") (.cons (.var 5 "row") (.cons (.var 3 "rows") .nil)))))) (.cons (.call 82 (.cons (.var 1 "order") (.cons (.var 11 "mark") (.cons (.bin .sub (.cst (.int 1)) (.var 12 "same")) (.cons (.var 5 "row") (.cons (.var 3 "rows") .nil)))))) .nil)))) (.cons (.ret (.cst (.bool false))) .nil) .nil) .nil)) (.cons (.ife (.cmp .eq (.bin .mod (.bi .len (.var 3 "rows")) (.var 2 "size")) (.cst (.int 0))) (.cons (.set 13 "pages" (.sl (.call 87 (.cons (.var 1 "order") (.cons (.var 3 "rows") (.cons (.var 2 "size") .nil)))) .no (.yes (.neg (.cst (.int 1)))))) (.frz 13 (.cons (.ret (.cmp .eq (.comp [("page", 10)] (.nm 10 "page") (.seq (.sl (.call 449 (.cons (.var 1 "order") (.cons (.var 3 "rows") (.cons (.var 2 "size") .nil)))) .no (.yes (.neg (.cst (.int 1)))))) .no (.rev (.var 10 "page"))) (.bi .list (.rev (.var 13 "pages"))))) .nil))) .nil) (.cons (.ret (.cst (.bool true))) .nil))))))))))))))))))⟩
/-- law -/
def b453 : Fd := ⟨1, 6, (.cons (.set 1 "cup" (.call 17 (.cons (.var 0 "script") .nil))) (.cons (.set 2 "even" (.tup (.cons (.tup (.cons (.cst (.int 0)) (.cons (.cst (.int 1)) .nil))) (.cons (.tup (.cons (.cst (.int 2)) (.cons (.cst (.int 1)) .nil))) (.cons (.tup (.cons (.cst (.int 4)) (.cons (.cst (.int 1)) .nil))) (.cons (.tup (.cons (.cst (.int 6)) (.cons (.cst (.int 1)) .nil))) .nil)))))) (.cons (.set 3 "ahead" (.call 448 (.cons (.cst (.int 1)) (.cons (.var 2 "even") (.cons (.tup (.cons (.cst (.int 4)) (.cons (.cst (.int 1)) .nil))) (.cons (.cst (.int 2)) .nil)))))) (.frz 3 (.cons (.set 4 "at" (.call 82 (.cons (.cst (.int 1)) (.cons (.cst (.int 2)) (.cons (.cst (.int 0)) (.cons (.ix (.var 3 "ahead") (.neg (.cst (.int 1)))) (.cons (.var 2 "even") .nil))))))) (.frz 4 (.cons (.ife (.notE (.call 20 (.cons (.tup (.cons (.var 3 "ahead") (.cons (.var 4 "at") (.cons (.call 86 (.cons (.cst (.int 1)) (.cons (.var 2 "even") (.cons (.var 4 "at") (.cons (.cst (.int 2)) .nil))))) .nil)))) (.cons (.tup (.cons (.sl (.var 2 "even") .no (.yes (.cst (.int 2)))) (.cons (.cst (.int 2)) (.cons (.sl (.var 2 "even") (.yes (.cst (.int 2))) .no) .nil)))) .nil)))) (.cons (.ret (.cst (.bool false))) .nil) .nil) (.cons (.ife (.notE (.call 20 (.cons (.call 448 (.cons (.cst (.int 1)) (.cons (.var 2 "even") (.cons (.tup (.cons (.cst (.int 4)) (.cons (.cst (.int 1)) .nil))) (.cons (.cst (.int 1)) .nil))))) (.cons (.tup (.cons (.tup (.cons (.cst (.int 2)) (.cons (.cst (.int 1)) .nil))) .nil)) .nil)))) (.cons (.ret (.cst (.bool false))) .nil) .nil) (.cons (.ife (.notE (.call 20 (.cons (.tup (.cons (.ix (.call 449 (.cons (.cst (.int 0)) (.cons (.var 2 "even") (.cons (.cst (.int 2)) .nil)))) (.cst (.int 0))) (.cons (.ix (.call 87 (.cons (.cst (.int 0)) (.cons (.var 2 "even") (.cons (.cst (.int 2)) .nil)))) (.cst (.int 1))) .nil))) (.cons (.tup (.cons (.tup (.cons (.tup (.cons (.cst (.int 6)) (.cons (.cst (.int 1)) .nil))) (.cons (.tup (.cons (.cst (.int 4)) (.cons (.cst (.int 1)) .nil))) .nil))) (.cons (.sl (.var 2 "even") (.yes (.cst (.int 2))) .no) .nil))) .nil)))) (.cons (.ret (.cst (.bool false))) .nil) .nil) (.cons (.ret (.cmp .eq (.comp [("turn", 5)] (.nm 5 "turn") (.rng (.cst (.int 10))) (.yes (.notE (.call 452 (.cons (.var 1 "cup") .nil)))) (.var 5 "turn")) (.lst .nil))) .nil))))))))))⟩
/-- the law's table -/
def Tk53 (i : Nat) : Option Fd := if i = 17 then some (bCup 131 639 4019 2077502537 465) else if i = 18 then some (bRoll 31297 7703 2147482951 387 2147483059 773) else if i = 452 then some b452 else if i = 453 then some b453 else TL i
theorem ltk53 : LT Tk53 := ⟨rfl, rfl, rfl, rfl, rfl, rfl, rfl, rfl, rfl, rfl, rfl, rfl, rfl, rfl, rfl, rfl, rfl, rfl, rfl, rfl, rfl, rfl, rfl, rfl, rfl, rfl, rfl, rfl, rfl, rfl, rfl, rfl, rfl, rfl, rfl, rfl, rfl, rfl, rfl, rfl, rfl, rfl, rfl, rfl, rfl, rfl, rfl, rfl, rfl, rfl, rfl, rfl, rfl, rfl, rfl, rfl, rfl, rfl, rfl, rfl, rfl, rfl, rfl, rfl, rfl, rfl, rfl, rfl, rfl, rfl, rfl, rfl, rfl, rfl, rfl, rfl, rfl, rfl, rfl, rfl, rfl, rfl, rfl, rfl, rfl, rfl, rfl, rfl, rfl, rfl, rfl, rfl, rfl, rfl, rfl, rfl, rfl, rfl, rfl, rfl, rfl, rfl, rfl, rfl, rfl, rfl, rfl, rfl, rfl, rfl, rfl, rfl, rfl, rfl, rfl, rfl, rfl, rfl, rfl, rfl, rfl, rfl, rfl, rfl, rfl, rfl, rfl, rfl, rfl, rfl, rfl, rfl, rfl, rfl, rfl, rfl, rfl, rfl, rfl, rfl, rfl, rfl, rfl, rfl, rfl, rfl, rfl, rfl, rfl, rfl, rfl, rfl, rfl, rfl, rfl, rfl, rfl, rfl, rfl, rfl, rfl, rfl, rfl, rfl, rfl, rfl, rfl, rfl, rfl, rfl, rfl, rfl, rfl, rfl, rfl, rfl, rfl, rfl, rfl, rfl, rfl, rfl, rfl, rfl, rfl, rfl, rfl, rfl, rfl, rfl, rfl, rfl, rfl, rfl, rfl, rfl, rfl, rfl, rfl, rfl, rfl, rfl, rfl, rfl, rfl, rfl, rfl, rfl, rfl, rfl, rfl, rfl, rfl, rfl, rfl, rfl, rfl, rfl, rfl, rfl, rfl, rfl, rfl, rfl, rfl, rfl, rfl, rfl, rfl, rfl, rfl, rfl, rfl, rfl, rfl, rfl, rfl, rfl, rfl, rfl, rfl, rfl, rfl, rfl, rfl, rfl, rfl, rfl, rfl, rfl, rfl, rfl, rfl, rfl, rfl, rfl, rfl, rfl, rfl, rfl, rfl, rfl, rfl, rfl, rfl, rfl, rfl, rfl, rfl, rfl, rfl, rfl, rfl, rfl, rfl, rfl, rfl, rfl, rfl, rfl, rfl, rfl, rfl, rfl, rfl, rfl, rfl, rfl, rfl, rfl, rfl, rfl, rfl, rfl, rfl, rfl, rfl, rfl, rfl, rfl, rfl, rfl, rfl, rfl, rfl, rfl, rfl, rfl, rfl, rfl, rfl, rfl, rfl, rfl, rfl, rfl, rfl, rfl, rfl, rfl, rfl, rfl, rfl, rfl, rfl, rfl, rfl, rfl, rfl, rfl, rfl, rfl, rfl, rfl, rfl, rfl, rfl, rfl, rfl, rfl, rfl, rfl, rfl, rfl, rfl, rfl, rfl, rfl, rfl, rfl, rfl, rfl, rfl, rfl, rfl, rfl, rfl, rfl, rfl, rfl, rfl, rfl, rfl, rfl, rfl, rfl, rfl, rfl, rfl, rfl, rfl, rfl, rfl, rfl, rfl, rfl, rfl, rfl, rfl, rfl, rfl, rfl, rfl, rfl, rfl, rfl, rfl, rfl, rfl, rfl, rfl, rfl, rfl, rfl, rfl, rfl, rfl, rfl, rfl, rfl, rfl, rfl, rfl, rfl, rfl, rfl, rfl, rfl, rfl, rfl, rfl, rfl, rfl, rfl, rfl, rfl, rfl, rfl, rfl, rfl, rfl, rfl, rfl, rfl, rfl, rfl, rfl, rfl, rfl⟩
theorem drk53 : Dr Tk53 := ⟨⟨_, _, _, _, _, _, rfl, by unfold HC; omega⟩, ⟨_, _, _, _, _, rfl, by omega, by omega, by omega, by omega, by omega⟩⟩
end Lb

set_option maxRecDepth 100000
set_option maxHeartbeats 1000000
/-! Pl53: the plain law k53. -/
namespace Lb
open Mp PySem L2
namespace K53
abbrev M := ltk53
abbrev Φ8 : Fs := runs Tk53 8
abbrev Φ : Fs := runs Tk53 9
theorem start (x : D) (s : Sl) (hx : CupD x) : ∃ ρ, svs Φ (takeS 8 (dropS 1 b453.body)) ([s, .own false x] ++ List.replicate 4 .un) = .nx ρ ∧ GS 6 1 5 ρ := by
  refine ⟨nxS (svs Φ (takeS 8 (dropS 1 b453.body)) ([s, .own false x] ++ List.replicate 4 .un)), by kernel_rfl, ⟨by kernel_rfl, ⟨x, by kernel_rfl, hx⟩, fun j h1 h2 => ?_⟩⟩
  have : j = 5 := by omega
  rcases this with rfl <;> kernel_rfl
/-! ### places -/
theorem ein_l (o : Int) (r : R2) (rs : List R2) : ein o 2 0 r rs = ((ordR o rs).filter (fun y => plt o y r)).length := by
  unfold ein
  rw [← List.countP_eq_length_filter, ← List.countP_eq_length_filter, ← (ordR_perm o rs).countP_eq]
  congr 1
  funext y
  simp [ahe, plt, mkR]
theorem ein_le (o : Int) (r : R2) (rs : List R2) : ein o 2 0 r rs ≤ rs.length := List.length_filter_le _ _
theorem ein_at {o : Int} {rs : List R2} (h : KeyU rs) {i : Nat} {x : R2} (hx : (ordR o rs)[i]? = some x) : ein o 2 0 x rs = i := by
  rw [ein_l, filter_take (ordR_strict h) i x hx, List.length_take]
  have := (List.getElem?_eq_some_iff.mp hx).1
  omega
theorem filter_take1 {o : Int} : ∀ {l : List R2}, l.Pairwise (fun a b => plt o a b = true) → ∀ (i : Nat) (x : R2), l[i]? = some x → l.filter (fun y => !plt o x y) = l.take (i + 1)
  | [], _, i, x, h => by simp at h
  | a :: l, hp, 0, x, h => by
    have : a = x := by simpa using h
    subst this
    obtain ⟨h1, _⟩ := List.pairwise_cons.mp hp
    rw [List.filter_cons_of_pos (by rw [plt_irr]; rfl), List.filter_eq_nil_iff.mpr fun y hy => by rw [h1 y hy]; decide]
    simp
  | a :: l, hp, i + 1, x, h => by
    obtain ⟨h1, h2⟩ := List.pairwise_cons.mp hp
    have h' : l[i]? = some x := by simpa using h
    have hx : x ∈ l := List.mem_of_getElem? h'
    have hn : plt o x a = false := by
      cases hq : plt o x a with
      | false => rfl
      | true => have := plt_tr (h1 x hx) hq; rw [plt_irr] at this; cases this
    rw [List.filter_cons_of_pos (by rw [hn]; rfl), filter_take1 h2 i x h', List.take_succ_cons]
theorem beg_at {o : Int} {rs : List R2} (h : KeyU rs) {i : Nat} {x : R2} (hx : (ordR o rs)[i]? = some x) : beg o 2 0 x rs = i + 1 := by
  have e : ahd o 2 0 x = fun y => !plt o x y := by
    funext y
    have h1 := plc_lt o y x
    have h2 := plc_lt o x y
    unfold ahd plt
    rw [Bool.eq_iff_iff]
    simp only [mkR, if_true, decide_true, Bool.and_true, Bool.or_eq_true, decide_eq_true_eq, Bool.not_eq_true', decide_eq_false_iff_not, h1, h2]
    by_cases ho : o = 0 <;> simp [ho, plc] <;> omega
  unfold beg
  rw [e, filter_take1 (ordR_strict h) i x hx, List.length_take]
  have := (List.getElem?_eq_some_iff.mp hx).1
  omega
theorem ein_beg (o m s : Int) (hs : 0 ≤ s ∧ s ≤ 1) (r : R2) (rs : List R2) : beg o m (1 - s) r rs = ein o m s r rs := by
  unfold beg ein
  rw [← List.countP_eq_length_filter, ← List.countP_eq_length_filter, (ordR_perm o rs).countP_eq]
  congr 1
  funext y
  unfold ahd ahe
  rcases (show s = 0 ∨ s = 1 by omega) with rfl | rfl <;> simp
theorem bpg_len {z : Nat} {l : List R2} {e : Nat} (h : e ≤ l.length) : (bpg z l e).length = min z e := by
  unfold bpg
  rw [List.length_take, List.length_drop]
  omega
theorem bpg_last {z : Nat} (hz : 1 ≤ z) {l : List R2} {e : Nat} (h : 0 < e ∧ e ≤ l.length) : (bpg z l e).getLast? = l[e - 1]? := by
  rw [List.getLast?_eq_getElem?, bpg_len h.2]
  unfold bpg
  rw [List.getElem?_take, if_pos (by omega), List.getElem?_drop]
  congr 1
  omega
theorem depthA_le : ∀ l : List R2, PyData.depthAll (l.map eR) ≤ 2
  | [] => by show 0 ≤ 2; omega
  | a :: l => by
    show max (eR a).depth (PyData.depthAll (l.map eR)) ≤ 2
    have := depthA_le l
    rw [depth_eR]
    omega
theorem idxL_eR : ∀ {l : List R2}, l.Nodup → ∀ (i n : Nat) (r : R2), l[i]? = some r → idxL (eR r) (l.map eR) n = some (.int ((n + i : Nat) : Int))
  | [], _, i, n, r, h => by simp at h
  | a :: l, hn, 0, n, r, h => by
    have : a = r := by simpa using h
    subst this
    show (if PyData.eqv (eR a) (eR a) then some (PyData.int (n : Int)) else _) = _
    rw [eqv_eR, if_pos (by simp)]; rfl
  | a :: l, hn, i + 1, n, r, h => by
    obtain ⟨h1, h2⟩ := List.nodup_cons.mp hn
    have h' : l[i]? = some r := by simpa using h
    have hx : r ∈ l := List.mem_of_getElem? h'
    show (if PyData.eqv (eR a) (eR r) then some (PyData.int (n : Int)) else idxL (eR r) (l.map eR) (n + 1)) = _
    rw [eqv_eR, if_neg (by rw [decide_eq_true_eq]; intro e; subst e; exact h1 hx), idxL_eR h2 i (n + 1) r h']
    congr 2
    omega
theorem idxP_eR {l : List R2} (hn : l.Nodup) {i : Nat} {r : R2} (h : l[i]? = some r) : idxP (.list (l.map eR)) (eR r) = some (.int (i : Int)) := by
  have hd : (PyData.list (l.map eR)).depth ≤ 64 ∧ (eR r).depth ≤ 64 := by
    refine ⟨?_, by rw [depth_eR]; omega⟩
    have := depthA_le l
    show PyData.depthAll (l.map eR) + 1 ≤ 64
    omega
  show (if (PyData.list (l.map eR)).depth ≤ 64 ∧ (eR r).depth ≤ 64 then idxL (eR r) (l.map eR) 0 else none) = _
  rw [if_pos hd, idxL_eR hn i 0 r h, Nat.zero_add]
theorem inP_lR (a : R2) (l : List R2) : inP (eR a) (.list (l.map eR)) = some (decide (a ∈ l)) := by
  show (if min (PyData.depthAll (l.map eR)) (eR a).depth ≤ 62 then some ((l.map eR).any fun y => PyData.eqv y (eR a)) else none) = _
  rw [if_pos (by rw [depth_eR]; omega)]
  congr 1
  rw [List.any_map, Bool.eq_iff_iff]
  simp [eqv_eR]
/-! ### one turn -/
abbrev bd : Tss := b452.body
/-- order, size, rows, line, row, then what changes -/
def st (x : D) (o : Int) (z : Nat) (rs : List R2) (r : R2) (t : List Sl) : Mp.Env :=
  .own true x :: .val (.d (.int o)) :: .val (.d (.int (z : Int))) :: .val (.d (eRs rs)) :: .val (.d (.list ((ordR o rs).map eR))) :: .val (.d (eR r)) :: t
theorem st0 {x : D} (hx : CupD x) : ∃ x' o z rs r, svs Φ8 (takeS 8 bd) (.own true x :: List.replicate 13 .un) = .nx (st x' o z rs r (List.replicate 8 .un)) ∧ CupD x' ∧ isO o ∧ (1 ≤ z ∧ z ≤ 3) ∧ RowsOk rs ∧ Rw r := by
  obtain ⟨x1, a, e1, c1, ha⟩ := drk53.rollN 7 hx 2 (by decide)
  obtain ⟨x2, b, e2, c2, hb⟩ := drk53.rollN 7 c1 3 (by decide)
  obtain ⟨x3, rs, e3, c3, hrs⟩ := drk53.list_ok M 5 c2 10
  obtain ⟨x4, c, e4, c4, hc⟩ := drk53.rollN 7 c3 10 (by decide)
  obtain ⟨x5, d, e5, c5, hd⟩ := drk53.rollN 7 c4 6 (by decide)
  have hl := ordR_length (a : Int) rs
  have hL := hrs.len
  obtain ⟨x6, y, e6, c6, hy⟩ := drk53.some_ok M.h19 6 c5 ((ordR (a : Int) rs ++ [((c : Int), (d : Int))]).map eR) (by simp) (by simp [hl]; omega)
  obtain ⟨r, hr, rfl⟩ := List.mem_map.mp hy
  have hr : Rw r := by
    rcases List.mem_append.mp hr with h | h
    · exact hrs.all r (mem_ordR.mp h)
    · have : r = ((c : Int), (d : Int)) := by simpa using h
      subst this
      exact ⟨by simp, by simp; omega, by simp, by simp; omega⟩
  have e1 : Φ8 18 [.ln x, .sh (.d (.int 2))] = .ok (.d (.int a)) false [some x1, none] := e1
  have e2 : Φ8 18 [.ln x1, .sh (.d (.int 3))] = .ok (.d (.int b)) false [some x2, none] := e2
  have e3 : Φ8 21 [.ln x2, .sh (.d (.int 10))] = .ok (.d (eRs rs)) false [some x3, none] := e3
  have e4 : Φ8 18 [.ln x3, .sh (.d (.int 10))] = .ok (.d (.int c)) false [some x4, none] := e4
  have e5 : Φ8 18 [.ln x4, .sh (.d (.int 6))] = .ok (.d (.int d)) false [some x5, none] := e5
  have e6 : Φ8 19 [.ln x5, .sh (.d (.list ((ordR (a : Int) rs ++ [((c : Int), (d : Int))]).map eR)))] = .ok (.d (eR r)) false [some x6, none] := e6
  rw [List.map_append] at e6
  have e6 : Φ8 19 [.ln x5, .sh (.d (.list ((ordR (a : Int) rs).map eR ++ [.tuple [.int c, .int d]])))] = .ok (.d (eR r)) false [some x6, none] := e6
  have e83 : Φ8 83 [.sh (.d (.int a)), .sh (.d (eRs rs))] = _ := s83 M 6 a rs
  have hL2 : rs.length ≤ 16777215 := by omega
  refine ⟨x6, a, 1 + b, rs, r, ?_, c6, ⟨by omega, by omega⟩, by omega, hrs, hr⟩
  simp [bd, b452, takeS, st, e1, e2, e3, e4, e5, e83, e6, hl, hL2]
/-- ahead, how many are due -/
abbrev E (o : Int) (rs : List R2) (r : R2) : Nat := ein o 2 0 r rs
abbrev A (o : Int) (z : Nat) (rs : List R2) (r : R2) : List R2 := bpg z (ordR o rs) (E o rs r)
theorem stA (x : D) {o : Int} (ho : isO o) {z : Nat} (hz : 1 ≤ z ∧ z ≤ 3) {rs : List R2} (hrs : RowsOk rs) {r : R2} (hr : Rw r) :
    svs Φ8 (takeS 4 (dropS 8 bd)) (st x o z rs r (List.replicate 8 .un)) = .nx (st x o z rs r ([.val (.d (eRs (A o z rs r))), .val (.d (.int ((min z (E o rs r) : Nat) : Int)))] ++ List.replicate 6 .un)) := by
  have e78 (r : R2) : Φ8 78 [.sh (.d (.int o)), .sh (.d (eR r))] = .ok (.d (eI (plc o r))) false [none, none] := s78 M 7 o r
  have e448 : Φ8 448 [.sh (.d (.int o)), .sh (.d (eRs rs)), .sh (.d (eR r)), .sh (.d (.int (z : Int)))] = _ := s448 M 3 ho hz hr hrs
  have e447 : Φ8 447 [.sh (.d (.int o)), .sh (.d (.int 2)), .sh (.d (.int 0)), .sh (.d (eR r)), .sh (.d (eRs rs))] = _ := s447 M 3 ho (m := 2) (by omega) (s := 0) (by omega) hr hrs
  have e76 : Φ8 76 [.sh (.d (.int o)), .sh (.d (eRs rs)), .sh (.d (eR r))] = _ := s76 M 3 ho hr hrs
  have hl := ordR_length o rs
  have h1 : svs Φ8 (takeS 2 (dropS 8 bd)) (st x o z rs r (List.replicate 8 .un)) = .nx (st x o z rs r ([.val (.d (eRs (A o z rs r)))] ++ List.replicate 7 .un)) := by
    simp [bd, b452, takeS, dropS, st, e448]
  have hle := ein_le o r rs
  have hd : (if ein o 2 0 r rs < z then (ein o 2 0 r rs : Int) else (z : Int)) = ((min z (E o rs r) : Nat) : Int) := by unfold E; split <;> omega
  have h2 : svs Φ8 (takeS 1 (dropS 2 (dropS 8 bd))) (st x o z rs r ([.val (.d (eRs (A o z rs r)))] ++ List.replicate 7 .un)) = .nx (st x o z rs r ([.val (.d (eRs (A o z rs r))), .val (.d (.int ((min z (E o rs r) : Nat) : Int)))] ++ List.replicate 6 .un)) := by
    simp [bd, b452, takeS, dropS, st]
    rw [comp_filter1 (j := 8) (D.d ∘ eR) (fun y => plt o y r) eR (by simp) (fun y hy => ⟨?_, fun _ => ?_⟩)]
    · simp [mxP, ← ein_l, hd]
    · simp [e78, ltP_eI, plt]
    · simp
  have hf : (rs.filter fun y => decide (plc o y < plc o r)).length = E o rs r := by
    unfold E ein
    congr 1
    refine List.filter_congr fun y _ => ?_
    simp [ahe, mkR]
  have hb := bpg_len (z := z) (l := ordR o rs) (e := E o rs r) (by rw [hl]; exact hle)
  have h3 : svs Φ8 (takeS 1 (dropS 3 (dropS 8 bd))) (st x o z rs r ([.val (.d (eRs (A o z rs r))), .val (.d (.int ((min z (E o rs r) : Nat) : Int)))] ++ List.replicate 6 .un)) = .nx (st x o z rs r ([.val (.d (eRs (A o z rs r))), .val (.d (.int ((min z (E o rs r) : Nat) : Int)))] ++ List.replicate 6 .un)) := by
    simp [bd, b452, takeS, dropS, st, e447, e76, hf, hb]
  rw [svs_split _ 2]
  show seqS (svs Φ8 (takeS 2 (dropS 8 bd)) _) (svs Φ8 (takeS 2 (dropS 2 (dropS 8 bd)))) = _
  rw [h1, seqS_nx, svs_split _ 1]
  show seqS (svs Φ8 (takeS 1 (dropS 2 (dropS 8 bd))) _) (svs Φ8 (takeS 1 (dropS 3 (dropS 8 bd)))) = _
  rw [h2, seqS_nx, h3]
def ifB : Tss → Tss
  | .cons (.ife _ a _) _ => a
  | _ => .nil
abbrev ib : Tss := ifB (dropS 12 bd)
theorem seqS_nil (r : SR) : seqS r (svs Φ8 .nil) = r := by cases r <;> rfl
/-- how many are got there and back -/
abbrev t2 (o : Int) (z : Nat) (rs : List R2) (r : R2) (t : List Sl) : List Sl := .val (.d (eRs (A o z rs r))) :: .val (.d (.int ((min z (E o rs r) : Nat) : Int))) :: t
theorem stB (x : D) {o : Int} (ho : isO o) {z : Nat} (hz : 1 ≤ z ∧ z ≤ 3) {rs : List R2} (hrs : RowsOk rs) {r : R2} (hr : Rw r) :
    ∃ s9 s10, freeS s9 = true ∧ freeS s10 = true ∧ svs Φ8 (takeS 1 (dropS 12 bd)) (st x o z rs r (t2 o z rs r (List.replicate 6 .un))) = .nx (st x o z rs r (t2 o z rs r ([.un, s9, s10] ++ List.replicate 3 .un))) := by
  have hl := ordR_length o rs
  have hL := hrs.len
  have hle := ein_le o r rs
  by_cases hE : E o rs r = 0
  · refine ⟨.un, .un, rfl, rfl, ?_⟩
    have hE : ein o 2 0 r rs = 0 := hE
    simp [bd, b452, takeS, dropS, st, hE]
  · have hE1 : 0 < E o rs r ∧ E o rs r ≤ (ordR o rs).length := ⟨by omega, by rw [hl]; exact hle⟩
    obtain ⟨a, ha⟩ : ∃ a, (ordR o rs)[E o rs r - 1]? = some a := ⟨_, List.getElem?_eq_getElem (by omega)⟩
    have hne : A o z rs r ≠ [] := fun e => by
      have := bpg_len (z := z) hE1.2
      rw [show bpg z (ordR o rs) (E o rs r) = [] from e] at this
      simp at this
      omega
    have hat : atI (A o z rs r) (-1) = some a := by rw [atI_last _ hne, bpg_last hz.1 hE1, ha]
    have haR : Rw a := hrs.all a (mem_ordR.mp (List.mem_of_getElem? ha))
    have hbeg : beg o 2 0 a rs = E o rs r := by rw [beg_at hrs.up ha]; omega
    have e82 : Φ8 82 [.sh (.d (.int o)), .sh (.d (.int 2)), .sh (.d (.int 0)), .sh (.d (eR a)), .sh (.d (eRs rs))] = _ := s82 M 3 ho (m := 2) (by omega) (s := 0) (by omega) haR hrs
    rw [hbeg] at e82
    have e86 : Φ8 86 [.sh (.d (.int o)), .sh (.d (eRs rs)), .sh (.d (.int (E o rs r : Int))), .sh (.d (.int (z : Int)))] = _ := s86 M 3 ho hrs (n := (E o rs r : Int)) (by omega) (z := (z : Int)) (by omega)
    rw [Int.toNat_natCast, Int.toNat_natCast] at e86
    refine ⟨.val (.d (.int (E o rs r : Int))), .val (.d (eRs (((ordR o rs).drop (E o rs r)).take z))), rfl, rfl, ?_⟩
    have hpos : 0 < min z (E o rs r) := by omega
    generalize hp : ((ordR o rs).drop (E o rs r)).take z = page at e86
    have hin : r ∈ ordR o rs → (ordR o rs)[E o rs r]? = some r := fun h => by
      obtain ⟨i, hi⟩ := List.getElem?_of_mem h
      rw [show E o rs r = i from ein_at hrs.up hi]
      exact hi
    have hpg0 : page[0]? = (ordR o rs)[E o rs r]? := by rw [← hp, List.getElem?_take, if_pos (by omega), List.getElem?_drop, Nat.add_zero]
    have c1 : svs Φ8 (takeS 1 (dropS 4 ib)) (st x o z rs r (t2 o z rs r ([.un, .val (.d (.int (E o rs r : Int))), .val (.d (eRs page))] ++ List.replicate 3 .un))) = .nx (st x o z rs r (t2 o z rs r ([.un, .val (.d (.int (E o rs r : Int))), .val (.d (eRs page))] ++ List.replicate 3 .un))) := by
      have hI := inP_lR r (ordR o rs)
      by_cases hm : r ∈ ordR o rs
      · have hi := hin hm
        have hx := idxP_eR ((ordR_strict hrs.up).imp fun {a b} h e => by subst e; rw [plt_irr] at h; cases h) hi
        have hpr : page.take 1 = [r] := by
          cases hpc : page with
          | nil => rw [hpc] at hpg0; rw [hi] at hpg0; simp at hpg0
          | cons b l => rw [hpc] at hpg0; rw [hi] at hpg0; simp at hpg0; simp [hpg0]
        have e20 : Φ8 20 [.sh (.d (.tuple [.tuple [eR r], .int (E o rs r : Int)])), .sh (.d (.tuple [.tuple [eR r], .int (E o rs r : Int)]))] = .ok (.d (.bool true)) false [none, none] := same_refl M.h20 3 4 _ (pl_tup (by simp) (fun x hx => by
          simp at hx
          rcases hx with rfl | rfl
          · exact pl_eRs 0 (rs := [r]) (by simp)
          · simp))
        have hc : cutP none (some 1) (eRs page) = some (.tuple [eR r]) := by
          show some (PyData.tuple (cutL (page.map eR) none (some 1))) = _
          rw [cutL_map, cutL_to1, hpr]; rfl
        simp [ib, ifB, bd, b452, takeS, dropS, st, hI, hm, hx, e20, hc]
      · simp [ib, ifB, bd, b452, takeS, dropS, st, hI, hm]
    have c2 : svs Φ8 (dropS 5 ib) (st x o z rs r (t2 o z rs r ([.un, .val (.d (.int (E o rs r : Int))), .val (.d (eRs page))] ++ List.replicate 3 .un))) = .nx (st x o z rs r (t2 o z rs r ([.un, .val (.d (.int (E o rs r : Int))), .val (.d (eRs page))] ++ List.replicate 3 .un))) := by
      cases hpc : page with
      | nil => simp [ib, ifB, bd, b452, takeS, dropS, st, eqP_rs0]
      | cons b l =>
        rw [hpc] at hpg0
        have hb : (ordR o rs)[E o rs r]? = some b := by rw [← hpg0]; rfl
        have hbR : Rw b := hrs.all b (mem_ordR.mp (List.mem_of_getElem? hb))
        have e448 : Φ8 448 [.sh (.d (.int o)), .sh (.d (eRs rs)), .sh (.d (eR b)), .sh (.d (.int (z : Int)))] = _ := s448 M 3 ho hz hbR hrs
        rw [ein_at hrs.up hb] at e448
        have hix : ixP (eRs (b :: l)) (.int 0) = some (eR b) := atI_nat (eR b :: l.map eR) 0
        simp [ib, ifB, bd, b452, takeS, dropS, st, eqP_rs0, hix, e448]
    have hat : atI (bpg z (ordR o rs) (ein o 2 0 r rs)) (-1) = some a := hat
    have c0 : svs Φ8 (takeS 4 ib) (st x o z rs r (t2 o z rs r (List.replicate 6 .un))) = .nx (st x o z rs r (t2 o z rs r ([.un, .val (.d (.int (E o rs r : Int))), .val (.d (eRs page))] ++ List.replicate 3 .un))) := by
      simp [ib, ifB, bd, b452, takeS, dropS, st, hat, e82, e86]
    have h0 : svs Φ8 (takeS 1 (dropS 12 bd)) (st x o z rs r (t2 o z rs r (List.replicate 6 .un))) = svs Φ8 ib (st x o z rs r (t2 o z rs r (List.replicate 6 .un))) := by
      have hd : takeS 1 (dropS 12 bd) = .cons (.ife (.cmp .gt (.var 7 "due") (.cst (.int 0))) ib .nil) .nil := rfl
      rw [hd]
      generalize ib = b
      have hz2 : 0 < min z (E o rs r) := by omega
      simp [st, hz2]
      exact seqS_nil _
    rw [h0, svs_split _ 4, c0, seqS_nx, svs_split _ 1]
    show seqS (svs Φ8 (takeS 1 (dropS 4 ib)) _) (svs Φ8 (dropS 5 ib)) = _
    rw [c1, seqS_nx, c2]
/-- the mark -/
theorem stC {x : D} (hx : CupD x) (o : Int) (z : Nat) (rs : List R2) (r : R2) (s9 s10 : Sl) : ∃ x' m, CupD x' ∧ (1 ≤ m ∧ m ≤ 2) ∧ svs Φ8 (takeS 2 (dropS 13 bd)) (st x o z rs r (t2 o z rs r ([.un, s9, s10] ++ List.replicate 3 .un))) = .nx (st x' o z rs r (t2 o z rs r [.un, s9, s10, .val (.d (.int m)), .un, .un])) := by
  obtain ⟨x1, a, e1, c1, ha⟩ := drk53.rollN 7 hx 2 (by decide)
  have e1 : Φ8 18 [.ln x, .sh (.d (.int 2))] = .ok (.d (.int a)) false [some x1, none] := e1
  refine ⟨x1, 1 + a, c1, by omega, ?_⟩
  simp [bd, b452, takeS, dropS, st, e1]
def GD (x : D) (o : Int) (z : Nat) (rs : List R2) (r : R2) (s9 s10 : Sl) (m : Int) (ρ : Mp.Env) : Prop := ∃ s12, freeS s12 = true ∧ ρ = st x o z rs r (t2 o z rs r [.un, s9, s10, .val (.d (.int m)), s12, .un])
theorem stD (x : D) {o : Int} (ho : isO o) {z : Nat} {rs : List R2} (hrs : RowsOk rs) {r : R2} (hr : Rw r) (s9 s10 : Sl) {m : Int} (hm : 1 ≤ m ∧ m ≤ 2) : ∃ ρ2, GD x o z rs r s9 s10 m ρ2 ∧ svs Φ8 (dropS 15 bd) (st x o z rs r (t2 o z rs r [.un, s9, s10, .val (.d (.int m)), .un, .un])) = svs Φ8 (dropS 16 bd) ρ2 := by
  obtain ⟨ρ2, e2, g2⟩ := for_ok (tg := .nm 12 "same") (b := svs Φ8 (loopB (dropS 15 bd))) (GD x o z rs r s9 s10 m) (xs := [.d (.int 0), .d (.int 1)]) (ρ := st x o z rs r (t2 o z rs r [.un, s9, s10, .val (.d (.int m)), .un, .un])) ⟨.un, rfl, rfl⟩ (fun y hy ρ g => by
    obtain ⟨s12, f12, rfl⟩ := g
    obtain ⟨s, hs, rfl⟩ : ∃ s : Int, (0 ≤ s ∧ s ≤ 1) ∧ y = .d (.int s) := by
      simp at hy
      rcases hy with rfl | rfl
      · exact ⟨0, by omega, rfl⟩
      · exact ⟨1, by omega, rfl⟩
    refine ⟨st x o z rs r (t2 o z rs r [.un, s9, s10, .val (.d (.int m)), .val (.d (.int s)), .un]), by simp [st, f12], _, ?_, .val (.d (.int s)), rfl, rfl⟩
    have e447 : Φ8 447 [.sh (.d (.int o)), .sh (.d (.int m)), .sh (.d (.int s)), .sh (.d (eR r)), .sh (.d (eRs rs))] = _ := s447 M 3 ho hm hs hr hrs
    have e82 : Φ8 82 [.sh (.d (.int o)), .sh (.d (.int m)), .sh (.d (.int (1 - s))), .sh (.d (eR r)), .sh (.d (eRs rs))] = _ := s82 M 3 ho hm (s := 1 - s) (by omega) hr hrs
    rw [ein_beg o m s hs] at e82
    have e20i (n : Int) : Φ8 20 [.sh (.d (.int n)), .sh (.d (.int n))] = .ok (.d (.bool true)) false [none, none] := same_refl M.h20 0 7 _ (by simp)
    simp [bd, b452, dropS, loopB, st, e447, e82, e20i])
  exact ⟨ρ2, g2, svs_for (l := [.d (.int 0), .d (.int 1)]) (ρ1 := st x o z rs r (t2 o z rs r [.un, s9, s10, .val (.d (.int m)), .un, .un])) rfl e2⟩
theorem cutL_init {α : Type} (xs : List α) : cutL xs none (some (-1)) = xs.take (xs.length - 1) := by
  unfold cutL HT.sIx
  simp
  congr 1
  omega
/-- the full pages, there and back -/
theorem pages_back {z : Nat} (hz : 0 < z) {l : List R2} (h : l.length % z = 0) : ((pgs z l.reverse).take (l.length / z)).map List.reverse = ((pgs z l).take (l.length / z)).reverse := by
  have h1 := Nat.div_add_mod l.length z
  rw [h, Nat.add_zero, Nat.mul_comm] at h1
  have hp (l' : List R2) (e : l'.length = l.length) : (pgs z l').take (l.length / z) = (List.range (l.length / z)).map fun k => (l'.drop (k * z)).take z := by
    unfold pgs
    rw [e, ← List.map_take, List.take_range, Nat.min_eq_left (by omega)]
  rw [hp _ (by simp), hp _ rfl, List.map_map, ← List.map_reverse]
  refine List.ext_getElem (by simp) fun k h2 h3 => ?_
  have hk : k < l.length / z := by simpa using h2
  have hkz : (k + 1) * z ≤ l.length := Nat.le_trans (Nat.mul_le_mul_right z hk) (Nat.le_of_eq h1)
  have e1 : (l.length / z - 1 - k) * z = l.length - (k * z) - z := by
    rw [Nat.sub_mul, Nat.sub_mul, h1, Nat.one_mul]
    omega
  simp only [List.getElem_map, List.getElem_range, List.getElem_reverse, List.length_range, Function.comp_apply]
  rw [Nat.succ_mul] at hkz
  have hb := bpg_rev (z := z) (l := l) (g := k * z) (by omega)
  rw [← hb, List.reverse_reverse, e1]
  unfold bpg
  congr 1
  omega
theorem eqP_pages (L : List (List R2)) : eqP (.list (L.map eRs)) (.list (L.map eRs)) = some true := by
  have h : ∀ l : List (List R2), PyData.eqvAll (l.map eRs) (l.map eRs) = true := fun l => by
    induction l with
    | nil => rfl
    | cons a l ih =>
      show (PyData.eqv (eRs a) (eRs a) && PyData.eqvAll (l.map eRs) (l.map eRs)) = true
      rw [ih, eqv_eRs]
      simp
  have hd : ∀ l : List (List R2), PyData.depthAll (l.map eRs) ≤ 2 := fun l => by
    induction l with
    | nil => show 0 ≤ 2; omega
    | cons a l ih =>
      show max (eRs a).depth (PyData.depthAll (l.map eRs)) ≤ 2
      have := depth_eRs a
      omega
  unfold eqP
  rw [if_pos (by
    have := hd L
    show min (PyData.depthAll (L.map eRs) + 1) _ ≤ 64
    omega)]
  exact congrArg some (h L)
theorem stE (x : D) {o : Int} (ho : isO o) {z : Nat} (hz : 1 ≤ z ∧ z ≤ 3) {rs : List R2} (hrs : RowsOk rs) (r : R2) {s9 s10 : Sl} (f10 : freeS s10 = true) (m : Int) {s12 : Sl} : ∃ t, svs Φ8 (dropS 16 bd) (st x o z rs r (t2 o z rs r [.un, s9, s10, .val (.d (.int m)), s12, .un])) = .rt (.sh (.d (.bool true))) (st x o z rs r t) := by
  have hl := ordR_length o rs
  have hL := hrs.len
  have hz0 : 0 < z := by omega
  have e449 : Φ8 449 [.sh (.d (.int o)), .sh (.d (eRs rs)), .sh (.d (.int (z : Int)))] = _ := s449 M 3 ho hrs hz
  have e87 : Φ8 87 [.sh (.d (.int o)), .sh (.d (eRs rs)), .sh (.d (.int (z : Int)))] = _ := s87 M 3 ho hrs (z := z) (by omega)
  rw [Int.toNat_natCast] at e87
  by_cases hm : rs.length % z = 0
  · have hb := pages_back (z := z) (by omega) (l := ordR o rs) (by rw [hl]; exact hm)
    rw [hl] at hb
    have hmz : (rs.length : Int) % (z : Int) = 0 := by omega
    have hpl (l : List R2) (e : l.length = rs.length) : cutL ((pgs z l).map eRs) none (some (-1)) = ((pgs z l).take (rs.length / z)).map eRs := by
      rw [cutL_map, cutL_init]
      simp [pgs, e]
    have hpf := hpl (ordR o rs) hl
    have hpb := hpl (ordR o rs).reverse (by rw [List.length_reverse]; exact hl)
    generalize (pgs z (ordR o rs)).take (rs.length / z) = Lf at hpf hb
    generalize (pgs z (ordR o rs).reverse).take (rs.length / z) = Lb at hpb hb
    have hq : Lb.map (fun p => eRs p.reverse) = Lf.reverse.map eRs := by rw [← hb, List.map_map]; rfl
    have hr : revP (.tuple (Lf.map eRs)) = some (.tuple (Lf.reverse.map eRs)) := by
      show some (PyData.tuple (Lf.map eRs).reverse) = _
      rw [List.map_reverse]
    have hls (ρ : Mp.Env) : lstR (.sh (.d (.tuple (Lf.reverse.map eRs)))) ρ = .ok (.fr (.d (.list (Lf.reverse.map eRs)))) ρ := rfl
    have hsq (ρ : Mp.Env) : seqI (.sh (.d (.tuple (Lb.map eRs)))) ρ = .ok (Lb.map (D.d ∘ eRs)) ρ := by
      show R.ok ((Lb.map eRs).map D.d) ρ = _
      rw [List.map_map]
    have heq := eqP_pages Lf.reverse
    have h1 : svs Φ8 (dropS 16 bd) (st x o z rs r (t2 o z rs r [.un, s9, s10, .val (.d (.int m)), s12, .un])) = .rt (.sh (.d (.bool true))) (st x o z rs r (t2 o z rs r [.un, s9, s10, .val (.d (.int m)), s12, .val (.d (.tuple (Lf.map eRs)))])) := by
      simp [bd, b452, dropS, st, e449, e87, hpf, hpb, hl, hmz, hz0, hsq]
      rw [comp_map1 (j := 10) (c := etc Φ8 To.no) (D.d ∘ eRs) (fun p => eRs p.reverse) (by simp) (fun _ => rfl) (fun p hp => ?_)]
      · rw [hq]
        simp [-List.map_reverse, hr, hls, heq]
      · simp
    exact ⟨_, h1⟩
  · have hmz : ¬ (rs.length : Int) % (z : Int) = 0 := by omega
    exact ⟨t2 o z rs r [.un, s9, s10, .val (.d (.int m)), s12, .un], by simp [bd, b452, dropS, st, hmz, hz0]⟩
theorem s452 {x : D} (hx : CupD x) : ∃ x', runs Tk53 9 452 [.ln x] = .ok (.d (.bool true)) false [some x'] ∧ CupD x' := by
  obtain ⟨x1, o, z, rs, r, e0, cx, ho, hz, hrs, hr⟩ := st0 hx
  have eA := stA x1 ho hz hrs hr
  obtain ⟨s9, s10, f9, f10, eB⟩ := stB x1 ho hz hrs hr
  obtain ⟨x2, m, cx2, hm, eC⟩ := stC cx o z rs r s9 s10
  obtain ⟨ρ2, ⟨s12, f12, hρ⟩, eD⟩ := stD x2 ho (z := z) hrs hr s9 s10 hm
  subst hρ
  obtain ⟨t, eE⟩ := stE x2 ho hz hrs r (s9 := s9) f10 m (s12 := s12)
  refine ⟨x2, ?_, cx2⟩
  rw [runs_eq (show Tk53 452 = some b452 from rfl), if_pos (show [Arg.ln x].length = b452.np from rfl)]
  have h0 : svs Φ8 bd (Mp.start b452.ns [.ln x]) = .rt (.sh (.d (.bool true))) (st x2 o z rs r t) := by
    show svs Φ8 bd (.own true x :: List.replicate 13 .un) = _
    rw [svs_split _ 8, e0, seqS_nx, svs_split _ 4, eA, seqS_nx]
    show svs Φ8 (dropS 12 bd) (st x1 o z rs r (t2 o z rs r (List.replicate 6 .un))) = _
    rw [svs_split _ 1, eB, seqS_nx]
    show svs Φ8 (dropS 13 bd) _ = _
    rw [svs_split _ 2, eC, seqS_nx]
    show svs Φ8 (dropS 15 bd) _ = _
    rw [eD, eE]
  show fin [.ln x] (svs Φ8 bd (Mp.start b452.ns [.ln x])) = _
  rw [h0]
  rfl
end K53
open K53 in
theorem pl53 (ns : List Int) (hn : ns.length ≤ 63) : runs Tk53 10 453 [.sh (.fz ns)] = .ok (.d (.bool true)) false [none] := by
  obtain ⟨x, e17, cx⟩ := drk53.cup_ok 8 ns hn
  have e17 : runs Tk53 9 17 [.sh (.fz ns)] = .ok x true [none] := e17
  rw [runs_eq (show Tk53 453 = some b453 from rfl), if_pos (show [Arg.sh (D.fz ns)].length = b453.np from rfl)]
  have h0 : svs Φ (takeS 1 b453.body) (Mp.start b453.ns [.sh (.fz ns)]) = .nx ([.val (.fz ns), .own false x] ++ List.replicate 4 .un) := by
    simp [b453, takeS, dropS, e17, Mp.start]
  obtain ⟨ρ, e, g⟩ := start x (.val (.fz ns)) cx
  obtain ⟨ρ', e2⟩ := comp_none (own := [5]) (tg := .nm 5 "turn") (c := (ev Φ (.notE (.call 452 (.cons (.var 1 "cup") .nil)))).t) (e := (ev Φ (.var 5 "turn")).v) (GS 6 1 5) (xs := rngL 0 10) (ρ := ρ) (by rw [wipe1]; exact g.set (by omega) rfl) (fun v _ ρ g => by
    have f5 := g.fr 5 (by omega) (by omega)
    obtain ⟨x, hc, cx⟩ := g.cup
    obtain ⟨x', e452, cx'⟩ := s452 cx
    refine ⟨ρ.set 5 (.val v), by simp [-getElem?_pos, f5], (ρ.set 5 (.val v)).set 1 (.own false x'), ?_, ?_⟩
    · have len := g.len
      simp [-getElem?_pos, set_get, len, hc, e452]
    · rw [wipe1]
      exact ((g.set (by omega) rfl).setC (by omega) cx').set (by omega) rfl)
  have h2 : svs Φ (dropS 8 (dropS 1 b453.body)) ρ = .rt (.sh (.d (.bool true))) ρ' := by
    have hcomp : (ev Φ (.comp [("turn", 5)] (.nm 5 "turn") (.rng (.cst (.int 10))) (.yes (.notE (.call 452 (.cons (.var 1 "cup") .nil)))) (.var 5 "turn"))).v ρ = .ok (.fr (.d (.list []))) ρ' := e2
    have hd : dropS 8 (dropS 1 b453.body) = .cons (.ret (.cmp .eq (.comp [("turn", 5)] (.nm 5 "turn") (.rng (.cst (.int 10))) (.yes (.notE (.call 452 (.cons (.var 1 "cup") .nil)))) (.var 5 "turn")) (.lst .nil))) .nil := rfl
    generalize (Tm.comp [("turn", 5)] (.nm 5 "turn") (.rng (.cst (.int 10))) (.yes (.notE (.call 452 (.cons (.var 1 "cup") .nil)))) (.var 5 "turn")) = c at hcomp hd
    rw [hd]
    simp [hcomp, eqP_lnil]
  have : svs Φ b453.body (Mp.start b453.ns [.sh (.fz ns)]) = .rt (.sh (.d (.bool true))) ρ' := by
    rw [svs_split Φ 1, h0, seqS_nx, svs_split Φ 8, e, seqS_nx, h2]
  rw [this]
  rfl
end Lb

set_option maxRecDepth 100000
set_option maxHeartbeats 0
namespace HeadT
open PySem PySem.Spec PyProof.Rows L2

def top (i : Nat) : Stmt := PySem.Challenge.pw_pagesread_k53_whole_pages_there_and_back.main.body.getD i (.Pass ⟨0, 0, 0, 0⟩)
def d_is_tuple_of : Mp.Df := ⟨"is_tuple_of", defArgs (top 9), defBody (top 9), defScope (top 9), ["value", "low", "high"], ["value", "low", "high"], [], false⟩
def d_fits_whole : Mp.Df := ⟨"fits_whole", defArgs (top 10), defBody (top 10), defScope (top 10), ["value", "low", "high"], ["value", "low", "high"], [], false⟩
def d_fits_row : Mp.Df := ⟨"fits_row", defArgs (top 11), defBody (top 11), defScope (top 11), ["value"], ["value"], [], false⟩
def d_fits_list : Mp.Df := ⟨"fits_list", defArgs (top 12), defBody (top 12), defScope (top 12), ["value"], ["value", "own", "one", "other"], [], false⟩
def d_need_list : Mp.Df := ⟨"need_list", defArgs (top 13), defBody (top 13), defScope (top 13), ["value"], ["value"], [], false⟩
def d_place_of : Mp.Df := ⟨"place_of", defArgs (top 17), defBody (top 17), defScope (top 17), ["order", "row"], ["order", "row"], [], false⟩
def d_ordered_in : Mp.Df := ⟨"ordered_in", defArgs (top 18), defBody (top 18), defScope (top 18), ["order", "rows"], ["order", "rows"], [], true⟩
def d_mark_of : Mp.Df := ⟨"mark_of", defArgs (top 19), defBody (top 19), defScope (top 19), ["order", "mark", "row"], ["order", "mark", "row"], [], false⟩
def d_begin_in : Mp.Df := ⟨"begin_in", defArgs (top 20), defBody (top 20), defScope (top 20), ["order", "mark", "same", "row", "rows"], ["order", "mark", "same", "row", "rows", "due", "found", "own", "there"], [(37, 5), (39, 8)], false⟩
def d_need_order : Mp.Df := ⟨"need_order", defArgs (top 21), defBody (top 21), defScope (top 21), ["value"], ["value"], [], false⟩
def d_need_row : Mp.Df := ⟨"need_row", defArgs (top 22), defBody (top 22), defScope (top 22), ["value"], ["value"], [], false⟩
def d_need_size : Mp.Df := ⟨"need_size", defArgs (top 23), defBody (top 23), defScope (top 23), ["value"], ["value"], [], false⟩
def d_rows_ahead : Mp.Df := ⟨"rows_ahead", defArgs (top 24), defBody (top 24), defScope (top 24), ["order", "rows", "row"], ["order", "rows", "row", "own"], [], false⟩
def d_begin_of_page : Mp.Df := ⟨"begin_of_page", defArgs (top 25), defBody (top 25), defScope (top 25), ["order", "mark", "same", "row", "rows"], ["order", "mark", "same", "row", "rows"], [], false⟩
def d_page_from : Mp.Df := ⟨"page_from", defArgs (top 26), defBody (top 26), defScope (top 26), ["order", "rows", "number", "size"], ["order", "rows", "number", "size"], [], false⟩
def d_all_pages : Mp.Df := ⟨"all_pages", defArgs (top 27), defBody (top 27), defScope (top 27), ["order", "rows", "size"], ["order", "rows", "size", "row", "at"], [(75, 3)], false⟩
def d_end_in : Mp.Df := ⟨"end_in", defArgs (top 33), defBody (top 33), defScope (top 33), ["order", "mark", "same", "row", "rows"], ["order", "mark", "same", "row", "rows", "due", "found", "own", "there"], [(83, 5), (85, 8)], false⟩
def d_ahead_in : Mp.Df := ⟨"ahead_in", defArgs (top 34), defBody (top 34), defScope (top 34), ["order", "size", "rows", "end"], ["order", "size", "rows", "end"], [], false⟩
def d_turned : Mp.Df := ⟨"turned", defArgs (top 35), defBody (top 35), defScope (top 35), ["side", "page", "size"], ["side", "page", "size"], [], false⟩
def d_backward_in : Mp.Df := ⟨"backward_in", defArgs (top 36), defBody (top 36), defScope (top 36), ["order", "size", "rows", "side"], ["order", "size", "rows", "side", "end"], [(94, 4)], false⟩
def d_end_of_page : Mp.Df := ⟨"end_of_page", defArgs (top 37), defBody (top 37), defScope (top 37), ["order", "mark", "same", "row", "rows"], ["order", "mark", "same", "row", "rows"], [], false⟩
def d_page_ahead : Mp.Df := ⟨"page_ahead", defArgs (top 38), defBody (top 38), defScope (top 38), ["order", "rows", "row", "size"], ["order", "rows", "row", "size"], [], false⟩
def d_back_pages : Mp.Df := ⟨"back_pages", defArgs (top 39), defBody (top 39), defScope (top 39), ["order", "rows", "size"], ["order", "rows", "size", "side", "found", "later"], [(117, 4), (115, 5)], false⟩
def d__law_cup : Mp.Df := ⟨"_law_cup", defArgs (top 41), defBody (top 41), defScope (top 41), ["script"], ["script", "cell"], [], false⟩
def d__law_roll : Mp.Df := ⟨"_law_roll", defArgs (top 42), defBody (top 42), defScope (top 42), ["cup", "many"], ["cup", "many", "found", "deep"], [], false⟩
def d__law_some : Mp.Df := ⟨"_law_some", defArgs (top 43), defBody (top 43), defScope (top 43), ["cup", "things"], ["cup", "things"], [], false⟩
def d__law_same : Mp.Df := ⟨"_law_same", defArgs (top 44), defBody (top 44), defScope (top 44), ["told", "due"], ["told", "due", "at"], [], false⟩
def d__law_list : Mp.Df := ⟨"_law_list", defArgs (top 45), defBody (top 45), defScope (top 45), ["cup", "most"], ["cup", "most", "high", "found", "key"], [(146, 2), (149, 3)], false⟩
def d__law_place : Mp.Df := ⟨"_law_place", defArgs (top 46), defBody (top 46), defScope (top 46), ["order", "row"], ["order", "row"], [], false⟩
def d__law_ordered : Mp.Df := ⟨"_law_ordered", defArgs (top 47), defBody (top 47), defScope (top 47), ["order", "rows"], ["order", "rows"], [], true⟩
def d__law_right : Mp.Df := ⟨"_law_right", defArgs (top 48), defBody (top 48), defScope (top 48), ["cup"], ["cup", "order", "size", "rows", "line", "row", "ahead", "due", "own", "at", "page", "mark", "same", "pages"], [(156, 1), (156, 2), (156, 3), (157, 4), (158, 5), (159, 6), (164, 9), (165, 10), (170, 11), (175, 13)], false⟩
def d_law : Mp.Df := ⟨"law", defArgs (top 49), defBody (top 49), defScope (top 49), ["script"], ["script", "cup", "even", "ahead", "at", "turn"], [(181, 3), (182, 4)], false⟩
def tx : Mp.Tx := ⟨[(0, d_is_tuple_of), (1, d_fits_whole), (2, d_fits_row), (3, d_fits_list), (5, d_need_list), (70, d_place_of), (71, d_ordered_in), (80, d_mark_of), (81, d_begin_in), (72, d_need_order), (73, d_need_row), (85, d_need_size), (76, d_rows_ahead), (82, d_begin_of_page), (86, d_page_from), (87, d_all_pages), (443, d_end_in), (444, d_ahead_in), (445, d_turned), (446, d_backward_in), (447, d_end_of_page), (448, d_page_ahead), (449, d_back_pages), (17, d__law_cup), (18, d__law_roll), (19, d__law_some), (20, d__law_same), (21, d__law_list), (78, d__law_place), (83, d__law_ordered), (452, d__law_right), (453, d_law)], [("KEYS", (.int 10)), ("RANKS", (.int 6)), ("KEY", (.int 0)), ("RANK", (.int 1)), ("SIZE", (.int 3)), ("BY_KEY", (.int 0)), ("GOT", (.int 0)), ("LAST", (.int 1)), ("OVER", (.int 2)), ("NONE", (.tuple [(.tuple []), .none, (.int 0)]))], [("InvalidRows", 0), ("InvalidNumber", 4)], ["abs", "all", "bool", "int", "isinstance", "len", "list", "max", "min", "range", "sorted", "str", "tuple", "zip"], [70, 78]⟩
abbrev T : Nat → Option Mp.Fd := Lb.Tk53
theorem ok0 : Mp.DOk tx.g tx.g0 tx.b T (0, d_is_tuple_of) := ⟨Lb.b0, rfl, by kernel_rfl, rfl, rfl, ⟨rfl, rfl, rfl, by decide +kernel, rfl, by decide +kernel, by decide +kernel⟩⟩
theorem bn0 : Mp.Bnd (0, d_is_tuple_of) := fun _ _ _ _ _ _ us hl => match us, hl with | [_, _, _], _ => rfl
theorem ok1 : Mp.DOk tx.g tx.g0 tx.b T (1, d_fits_whole) := ⟨Lb.b1, rfl, by kernel_rfl, rfl, rfl, ⟨rfl, rfl, rfl, by decide +kernel, rfl, by decide +kernel, by decide +kernel⟩⟩
theorem bn1 : Mp.Bnd (1, d_fits_whole) := fun _ _ _ _ _ _ us hl => match us, hl with | [_, _, _], _ => rfl
theorem ok2 : Mp.DOk tx.g tx.g0 tx.b T (2, d_fits_row) := ⟨Lb.b2, rfl, by kernel_rfl, rfl, rfl, ⟨rfl, rfl, rfl, by decide +kernel, rfl, by decide +kernel, by decide +kernel⟩⟩
theorem bn2 : Mp.Bnd (2, d_fits_row) := fun _ _ _ _ _ _ us hl => match us, hl with | [_], _ => rfl
theorem ok3 : Mp.DOk tx.g tx.g0 tx.b T (3, d_fits_list) := ⟨Lb.b3, rfl, by kernel_rfl, rfl, rfl, ⟨rfl, rfl, rfl, by decide +kernel, rfl, by decide +kernel, by decide +kernel⟩⟩
theorem bn3 : Mp.Bnd (3, d_fits_list) := fun _ _ _ _ _ _ us hl => match us, hl with | [_], _ => rfl
theorem ok5 : Mp.DOk tx.g tx.g0 tx.b T (5, d_need_list) := ⟨Lb.b5, rfl, by kernel_rfl, rfl, rfl, ⟨rfl, rfl, rfl, by decide +kernel, rfl, by decide +kernel, by decide +kernel⟩⟩
theorem bn5 : Mp.Bnd (5, d_need_list) := fun _ _ _ _ _ _ us hl => match us, hl with | [_], _ => rfl
theorem ok70 : Mp.DOk tx.g tx.g0 tx.b T (70, d_place_of) := ⟨Lb.b70, rfl, by kernel_rfl, rfl, rfl, ⟨rfl, rfl, rfl, by decide +kernel, rfl, by decide +kernel, by decide +kernel⟩⟩
theorem bn70 : Mp.Bnd (70, d_place_of) := fun _ _ _ _ _ _ us hl => match us, hl with | [_, _], _ => rfl
theorem ok71 : Mp.DOk tx.g tx.g0 tx.b T (71, d_ordered_in) := ⟨Lb.b71, rfl, by kernel_rfl, rfl, rfl, ⟨rfl, rfl, rfl, by decide +kernel, rfl, by decide +kernel, by decide +kernel⟩⟩
theorem bn71 : Mp.Bnd (71, d_ordered_in) := fun _ _ _ _ _ _ us hl => match us, hl with | [_, _], _ => rfl
theorem ok80 : Mp.DOk tx.g tx.g0 tx.b T (80, d_mark_of) := ⟨Lb.b80, rfl, by kernel_rfl, rfl, rfl, ⟨rfl, rfl, rfl, by decide +kernel, rfl, by decide +kernel, by decide +kernel⟩⟩
theorem bn80 : Mp.Bnd (80, d_mark_of) := fun _ _ _ _ _ _ us hl => match us, hl with | [_, _, _], _ => rfl
theorem ok81 : Mp.DOk tx.g tx.g0 tx.b T (81, d_begin_in) := ⟨Lb.b81, rfl, by kernel_rfl, rfl, rfl, ⟨rfl, rfl, rfl, by decide +kernel, rfl, by decide +kernel, by decide +kernel⟩⟩
theorem bn81 : Mp.Bnd (81, d_begin_in) := fun _ _ _ _ _ _ us hl => match us, hl with | [_, _, _, _, _], _ => rfl
theorem ok72 : Mp.DOk tx.g tx.g0 tx.b T (72, d_need_order) := ⟨Lb.b72, rfl, by kernel_rfl, rfl, rfl, ⟨rfl, rfl, rfl, by decide +kernel, rfl, by decide +kernel, by decide +kernel⟩⟩
theorem bn72 : Mp.Bnd (72, d_need_order) := fun _ _ _ _ _ _ us hl => match us, hl with | [_], _ => rfl
theorem ok73 : Mp.DOk tx.g tx.g0 tx.b T (73, d_need_row) := ⟨Lb.b73, rfl, by kernel_rfl, rfl, rfl, ⟨rfl, rfl, rfl, by decide +kernel, rfl, by decide +kernel, by decide +kernel⟩⟩
theorem bn73 : Mp.Bnd (73, d_need_row) := fun _ _ _ _ _ _ us hl => match us, hl with | [_], _ => rfl
theorem ok85 : Mp.DOk tx.g tx.g0 tx.b T (85, d_need_size) := ⟨Lb.b85, rfl, by kernel_rfl, rfl, rfl, ⟨rfl, rfl, rfl, by decide +kernel, rfl, by decide +kernel, by decide +kernel⟩⟩
theorem bn85 : Mp.Bnd (85, d_need_size) := fun _ _ _ _ _ _ us hl => match us, hl with | [_], _ => rfl
theorem ok76 : Mp.DOk tx.g tx.g0 tx.b T (76, d_rows_ahead) := ⟨Lb.b76, rfl, by kernel_rfl, rfl, rfl, ⟨rfl, rfl, rfl, by decide +kernel, rfl, by decide +kernel, by decide +kernel⟩⟩
theorem bn76 : Mp.Bnd (76, d_rows_ahead) := fun _ _ _ _ _ _ us hl => match us, hl with | [_, _, _], _ => rfl
theorem ok82 : Mp.DOk tx.g tx.g0 tx.b T (82, d_begin_of_page) := ⟨Lb.b82, rfl, by kernel_rfl, rfl, rfl, ⟨rfl, rfl, rfl, by decide +kernel, rfl, by decide +kernel, by decide +kernel⟩⟩
theorem bn82 : Mp.Bnd (82, d_begin_of_page) := fun _ _ _ _ _ _ us hl => match us, hl with | [_, _, _, _, _], _ => rfl
theorem ok86 : Mp.DOk tx.g tx.g0 tx.b T (86, d_page_from) := ⟨Lb.b86, rfl, by kernel_rfl, rfl, rfl, ⟨rfl, rfl, rfl, by decide +kernel, rfl, by decide +kernel, by decide +kernel⟩⟩
theorem bn86 : Mp.Bnd (86, d_page_from) := fun _ _ _ _ _ _ us hl => match us, hl with | [_, _, _, _], _ => rfl
theorem ok87 : Mp.DOk tx.g tx.g0 tx.b T (87, d_all_pages) := ⟨Lb.b87, rfl, by kernel_rfl, rfl, rfl, ⟨rfl, rfl, rfl, by decide +kernel, rfl, by decide +kernel, by decide +kernel⟩⟩
theorem bn87 : Mp.Bnd (87, d_all_pages) := fun _ _ _ _ _ _ us hl => match us, hl with | [_, _, _], _ => rfl
theorem ok443 : Mp.DOk tx.g tx.g0 tx.b T (443, d_end_in) := ⟨Lb.b443, rfl, by kernel_rfl, rfl, rfl, ⟨rfl, rfl, rfl, by decide +kernel, rfl, by decide +kernel, by decide +kernel⟩⟩
theorem bn443 : Mp.Bnd (443, d_end_in) := fun _ _ _ _ _ _ us hl => match us, hl with | [_, _, _, _, _], _ => rfl
theorem ok444 : Mp.DOk tx.g tx.g0 tx.b T (444, d_ahead_in) := ⟨Lb.b444, rfl, by kernel_rfl, rfl, rfl, ⟨rfl, rfl, rfl, by decide +kernel, rfl, by decide +kernel, by decide +kernel⟩⟩
theorem bn444 : Mp.Bnd (444, d_ahead_in) := fun _ _ _ _ _ _ us hl => match us, hl with | [_, _, _, _], _ => rfl
theorem ok445 : Mp.DOk tx.g tx.g0 tx.b T (445, d_turned) := ⟨Lb.b445, rfl, by kernel_rfl, rfl, rfl, ⟨rfl, rfl, rfl, by decide +kernel, rfl, by decide +kernel, by decide +kernel⟩⟩
theorem bn445 : Mp.Bnd (445, d_turned) := fun _ _ _ _ _ _ us hl => match us, hl with | [_, _, _], _ => rfl
theorem ok446 : Mp.DOk tx.g tx.g0 tx.b T (446, d_backward_in) := ⟨Lb.b446, rfl, by kernel_rfl, rfl, rfl, ⟨rfl, rfl, rfl, by decide +kernel, rfl, by decide +kernel, by decide +kernel⟩⟩
theorem bn446 : Mp.Bnd (446, d_backward_in) := fun _ _ _ _ _ _ us hl => match us, hl with | [_, _, _, _], _ => rfl
theorem ok447 : Mp.DOk tx.g tx.g0 tx.b T (447, d_end_of_page) := ⟨Lb.b447, rfl, by kernel_rfl, rfl, rfl, ⟨rfl, rfl, rfl, by decide +kernel, rfl, by decide +kernel, by decide +kernel⟩⟩
theorem bn447 : Mp.Bnd (447, d_end_of_page) := fun _ _ _ _ _ _ us hl => match us, hl with | [_, _, _, _, _], _ => rfl
theorem ok448 : Mp.DOk tx.g tx.g0 tx.b T (448, d_page_ahead) := ⟨Lb.b448, rfl, by kernel_rfl, rfl, rfl, ⟨rfl, rfl, rfl, by decide +kernel, rfl, by decide +kernel, by decide +kernel⟩⟩
theorem bn448 : Mp.Bnd (448, d_page_ahead) := fun _ _ _ _ _ _ us hl => match us, hl with | [_, _, _, _], _ => rfl
theorem ok449 : Mp.DOk tx.g tx.g0 tx.b T (449, d_back_pages) := ⟨Lb.b449, rfl, by kernel_rfl, rfl, rfl, ⟨rfl, rfl, rfl, by decide +kernel, rfl, by decide +kernel, by decide +kernel⟩⟩
theorem bn449 : Mp.Bnd (449, d_back_pages) := fun _ _ _ _ _ _ us hl => match us, hl with | [_, _, _], _ => rfl
theorem ok17 : Mp.DOk tx.g tx.g0 tx.b T (17, d__law_cup) := ⟨(Lb.bCup 131 639 4019 2077502537 465), rfl, by kernel_rfl, rfl, rfl, ⟨rfl, rfl, rfl, by decide +kernel, rfl, by decide +kernel, by decide +kernel⟩⟩
theorem bn17 : Mp.Bnd (17, d__law_cup) := fun _ _ _ _ _ _ us hl => match us, hl with | [_], _ => rfl
theorem ok18 : Mp.DOk tx.g tx.g0 tx.b T (18, d__law_roll) := ⟨(Lb.bRoll 31297 7703 2147482951 387 2147483059 773), rfl, by kernel_rfl, rfl, rfl, ⟨rfl, rfl, rfl, by decide +kernel, rfl, by decide +kernel, by decide +kernel⟩⟩
theorem bn18 : Mp.Bnd (18, d__law_roll) := fun _ _ _ _ _ _ us hl => match us, hl with | [_, _], _ => rfl
theorem ok19 : Mp.DOk tx.g tx.g0 tx.b T (19, d__law_some) := ⟨Lb.b19, rfl, by kernel_rfl, rfl, rfl, ⟨rfl, rfl, rfl, by decide +kernel, rfl, by decide +kernel, by decide +kernel⟩⟩
theorem bn19 : Mp.Bnd (19, d__law_some) := fun _ _ _ _ _ _ us hl => match us, hl with | [_, _], _ => rfl
theorem ok20 : Mp.DOk tx.g tx.g0 tx.b T (20, d__law_same) := ⟨Lb.b20, rfl, by kernel_rfl, rfl, rfl, ⟨rfl, rfl, rfl, by decide +kernel, rfl, by decide +kernel, by decide +kernel⟩⟩
theorem bn20 : Mp.Bnd (20, d__law_same) := fun _ _ _ _ _ _ us hl => match us, hl with | [_, _], _ => rfl
theorem ok21 : Mp.DOk tx.g tx.g0 tx.b T (21, d__law_list) := ⟨Lb.b21, rfl, by kernel_rfl, rfl, rfl, ⟨rfl, rfl, rfl, by decide +kernel, rfl, by decide +kernel, by decide +kernel⟩⟩
theorem bn21 : Mp.Bnd (21, d__law_list) := fun _ _ _ _ _ _ us hl => match us, hl with | [_, _], _ => rfl
theorem ok78 : Mp.DOk tx.g tx.g0 tx.b T (78, d__law_place) := ⟨Lb.b78, rfl, by kernel_rfl, rfl, rfl, ⟨rfl, rfl, rfl, by decide +kernel, rfl, by decide +kernel, by decide +kernel⟩⟩
theorem bn78 : Mp.Bnd (78, d__law_place) := fun _ _ _ _ _ _ us hl => match us, hl with | [_, _], _ => rfl
theorem ok83 : Mp.DOk tx.g tx.g0 tx.b T (83, d__law_ordered) := ⟨Lb.b83, rfl, by kernel_rfl, rfl, rfl, ⟨rfl, rfl, rfl, by decide +kernel, rfl, by decide +kernel, by decide +kernel⟩⟩
theorem bn83 : Mp.Bnd (83, d__law_ordered) := fun _ _ _ _ _ _ us hl => match us, hl with | [_, _], _ => rfl
theorem ok452 : Mp.DOk tx.g tx.g0 tx.b T (452, d__law_right) := ⟨Lb.b452, rfl, by kernel_rfl, rfl, rfl, ⟨rfl, rfl, rfl, by decide +kernel, rfl, by decide +kernel, by decide +kernel⟩⟩
theorem bn452 : Mp.Bnd (452, d__law_right) := fun _ _ _ _ _ _ us hl => match us, hl with | [_], _ => rfl
theorem ok453 : Mp.DOk tx.g tx.g0 tx.b T (453, d_law) := ⟨Lb.b453, rfl, by kernel_rfl, rfl, rfl, ⟨rfl, rfl, rfl, by decide +kernel, rfl, by decide +kernel, by decide +kernel⟩⟩
theorem bn453 : Mp.Bnd (453, d_law) := fun _ _ _ _ _ _ us hl => match us, hl with | [_], _ => rfl
theorem okp70 : Mp.DOk tx.g0 [] tx.b T (70, d_place_of) := ⟨Lb.b70, rfl, by kernel_rfl, rfl, rfl, ⟨rfl, rfl, rfl, by decide +kernel, rfl, by decide +kernel, by decide +kernel⟩⟩
theorem okp78 : Mp.DOk tx.g0 [] tx.b T (78, d__law_place) := ⟨Lb.b78, rfl, by kernel_rfl, rfl, rfl, ⟨rfl, rfl, rfl, by decide +kernel, rfl, by decide +kernel, by decide +kernel⟩⟩
theorem oks0 : Mp.DfsOk tx.g0 [] tx.b tx.ds0 T := Mp.AllD.of (Q := Mp.DOk tx.g0 [] tx.b T) (l := tx.ds0) ⟨okp70, okp78, trivial⟩
theorem oks : Mp.DfsOk tx.g tx.g0 tx.b tx.ds T := Mp.AllD.of (Q := Mp.DOk tx.g tx.g0 tx.b T) (l := tx.ds) ⟨ok0, ok1, ok2, ok3, ok5, ok70, ok71, ok80, ok81, ok72, ok73, ok85, ok76, ok82, ok86, ok87, ok443, ok444, ok445, ok446, ok447, ok448, ok449, ok17, ok18, ok19, ok20, ok21, ok78, ok83, ok452, ok453, trivial⟩
theorem bns : ∀ p ∈ tx.ds, Mp.Bnd p := Mp.AllD.of (Q := Mp.Bnd) (l := tx.ds) ⟨bn0, bn1, bn2, bn3, bn5, bn70, bn71, bn80, bn81, bn72, bn73, bn85, bn76, bn82, bn86, bn87, bn443, bn444, bn445, bn446, bn447, bn448, bn449, bn17, bn18, bn19, bn20, bn21, bn78, bn83, bn452, bn453, trivial⟩
def names0 : List PySem.Str := ["PageError", "InvalidRows", "InvalidNumber", "KEYS", "RANKS", "KEY", "RANK", "is_tuple_of", "fits_whole", "fits_row", "fits_list", "need_list", "SIZE", "BY_KEY", "place_of", "ordered_in", "mark_of", "begin_in", "need_order", "need_row", "need_size", "rows_ahead", "begin_of_page", "page_from", "all_pages", "GOT", "LAST", "OVER", "NONE", "end_in"]
def names1 : List PySem.Str := ["ahead_in", "turned", "backward_in", "end_of_page", "page_ahead", "back_pages", "_law_cup", "_law_roll", "_law_some", "_law_same", "_law_list", "_law_place", "_law_ordered", "_law_right"]
def names : List PySem.Str := names0 ++ names1
abbrev R : PySem.W.OpenRow := PySem.W.OpenLaw.row PySem.Challenge.rw_pagesread_k53_whole_pages_there_and_back
abbrev hk : PySem.W.Hook := He.hookX 4 tx.fa tx.fn [] tx.tf tx.ex
def ob (s : PySem.W.SharedT) : He.AlX := He.obsX 4 tx.fa tx.fn [] tx.tf tx.ex (HandSHeadRun.getT s)
theorem ob_eq (s : PySem.W.SharedT) : ob s = hk.obs s.abs := He.obsX_eq (HandSHeadRun.getT_eq s)
open PySem.W PySem.Calls HandSHeadRun in
theorem run (w : World) : HandSHeadRun.RunEq R (PySem.W.view R.prog [49]) hk ob 4000 names w := by
  intro os
  refine PySem.W.byRow2 "special-get-raises" (P := fun w => (HandSHeadRun.endF (HandSHeadRun.stepQ (HandSHeadRun.denQ HandSHeadRun.tabQ) R.prog w) 4000 R.prog w os).map (fun s => (HandSHeadRun.looksF R.prog (boot_heap w.params) s.abs, HandSHeadRun.seenQ (PySem.W.view R.prog [49]) names (importedModules R.prog.main.body) (fun s => PySem.W.xlAt (PySem.W.view R.prog [49]) [] s && PySem.W.recOk R.toRowW.records s) s.abs, ob s)) = some (true, PySem.W.openGood (PySem.W.view R.prog [49]) names, hk.val w)) (fun w => by kernel_rfl) (fun w => by kernel_rfl) w

theorem law_true (ns : List Int) (hn : ns.length ≤ 63) (hb : ∀ z ∈ ns, Builtin.Int.intBits z ≤ 1048576) : Mp.runs T 10 453 [.sh (.fz ns)] = .ok (.d (.bool true)) false [none] := Lb.pl53 ns hn
end HeadT
open PySem PySem.W PySem.Calls PyProof.Rows
theorem PySem.Challenge.cw_pagesread_k53_whole_pages_there_and_back_holds : PySem.Challenge.rw_pagesread_k53_whole_pages_there_and_back.Holds := by
  w_on; o_law
  refine HandSHeadRun.head_any (r := OpenLaw.row PySem.Challenge.rw_pagesread_k53_whole_pages_there_and_back) (q := view (OpenLaw.row PySem.Challenge.rw_pagesread_k53_whole_pages_there_and_back).prog [49]) (H := HeadT.hk) (ob := HeadT.ob) (M := 4000) (loose := HeadT.names) (d := HandSHeadRun.topDef (OpenLaw.row PySem.Challenge.rw_pagesread_k53_whole_pages_there_and_back).prog 49) (kwd := []) HeadT.ob_eq
    (by kernel_rfl) (fun s => by kernel_rfl) HeadT.run (by kernel_rfl) (by kernel_rfl) (by kernel_rfl) (by rfl) (by first | assumption | decide +kernel) (by decide +kernel) ⟨rfl, rfl, rfl, rfl, rfl, by decide +kernel⟩ ?hw ?hc
  case hw => w_witness2
  case hc =>
    refine LamX.walk_ofTsE (l := PySem.Challenge.rw_pagesread_k53_whole_pages_there_and_back) (n := 63) (k := 2 * 10) (x := "script") (CX := fun w => L2.CX (PySem.Challenge.rw_pagesread_k53_whole_pages_there_and_back).prog w) rfl (by decide) (by kernel_rfl) ⟨rfl, by decide, by decide⟩ ?F (fun _ _ _ _ _ z => Mp.cx_never z)
    intro w mg fa h Y G hmg0
    obtain ⟨K, KX, c⟩ := Y
    have hmg : mg ("law" : PySem.Str) = some (.ref fa) := by
      have e : (HandSHeadRun.topDef (OpenLaw.row PySem.Challenge.rw_pagesread_k53_whole_pages_there_and_back).prog 49).name = ("law" : PySem.Str) := by kernel_rfl
      rw [← e]
      exact hmg0
    exact ⟨K, KX, Mp.lawAt (T := HeadT.T) (i := 453) (d := HeadT.d_law) c KX G (by decide) HeadT.bns HeadT.oks0 HeadT.oks (List.mem_of_getElem? (i := 31) rfl) rfl rfl hmg (by decide) HeadT.law_true⟩

