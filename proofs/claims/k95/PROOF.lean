import PyProof.Rows.All
import Wide.All
import OpenK.AllK
import Wide.FinOn
import HandS.ForMost
import HandS.ForExc
import HandS.Flow
import HandS.Style
import HandS.IsInst
import HandS.Zip
import HandS.NoneIn
import HandS.HeadEnd
import HandS.Defaults
import HandS.TupAny
import HandS.Conv
import HandS.Deep
import HandS.RaiseMore
import PyProof.ReprBulk
import HandS.SortInts
import HandS.SetFor
import HandS.Iter
import HandS.TupMul
import PyProof.WalksMore
import PyProof.WalkInts
import HandS.TupSets
import KE.SortData
import KE.DataMinMax
import KE.GoesEnum
import HandS.Head0
import HandS.Head1
import HandS.Head2
import HandS.HeadHook1
import HandS.HeadHook2
import PySem.Challenge.RW_fewtoys_k95_whole_balls_that_come_to_cor
set_option Elab.async false
set_option linter.all false
set_option maxRecDepth 100000
/-! PV: values without addresses over the hand layer. 1: values, representation, worlds -/
namespace PV
open PySem PySem.Spec PyProof.Rows L2
/-! ### values -/
inductive D where
  | non | bl (b : Bool) | int (i : Int) | str (s : Str) | ty (n : String)
  | tup (xs : List D) | lst (xs : List D) | ro (xs : List D)
  | dic (t : Bool) (kvs : List (D × D)) | set (xs : List D)
  | fn (x : Str) (env : List D) | exc (x : Str) (fs : List (Str × D))
/-- a list, a dict, a set: things that may be changed -/
def D.mut : D → Bool
  | .lst _ => true
  | .dic _ _ => true
  | .set _ => true
  | _ => false
/-- whose an address is: nobody's (a tuple, or not ours), never changed any more, slot i's own, a value's in flight, a caller's (held), lent by a caller to be read -/
inductive Lab where
  | no | frz | slot (i : Nat) | tmp (k : Nat) | held | lent
  deriving DecidableEq
abbrev Labs := Addr → Lab
/-- a key as a value -/
def keyD : Key → D
  | .inl i => .int i
  | .inr s => .str s
/-- what a changeable object shows: the parts as values (ds) and as they stand (vs) -/
inductive Sh : HO → D → List D → List V → Prop where
  | lst (ds : List D) (vs : List V) : Sh (.lst vs) (.lst ds) ds vs
  | dK (kvs : List (Key × V)) (ds : List D) : Sh (.dK kvs) (.dic false ((kvs.map fun p => keyD p.1).zip ds)) ds (kvs.map (·.2))
  | dT (kvs : List (List Key × V)) (ds : List D) : Sh (.dT kvs) (.dic true ((kvs.map fun p => D.tup (p.1.map keyD)).zip ds)) ds (kvs.map (·.2))
  | set (S : Int → Bool) (is : List Int) (n : Nat) : (∀ i, S i = true ↔ i ∈ is) → is.Nodup → n = is.length → Sh (.set S n) (.set (is.map D.int)) [] []
/-- changeable -/
abbrev MutO (H : Hp) (a : Addr) : Prop := Mut (H a)
theorem Sh.mut {o : HO} {d : D} {ds : List D} {vs : List V} (h : Sh o d ds vs) : Mut (some o) := by
  cases h <;> trivial
theorem Sh.dmut {o : HO} {d : D} {ds : List D} {vs : List V} (h : Sh o d ds vs) : d.mut = true := by
  cases h <;> rfl
/-- a list that is read alone: the script, a list of the module -/
def RoL (K : PySem.W.Frag) (H : Hp) (a : Addr) (vs : List V) : Prop := (∃ ob, H a = some (.frz ob (.lst vs))) ∨
  ∃ (o : Obj) (its : Array Value) (n : Nat), K.lookup a = some o ∧ o.cls = .type "list" ∧ o.dict = none ∧ o.data = .seq its n ∧ its.size ≤ sizeLine ∧ Vals vs its.toList
theorem RoL.sql {K : PySem.W.Frag} {H : Hp} {a : Addr} {vs : List V} (h : RoL K H a vs) : SqL K H a vs := by
  rcases h with ⟨ob, h⟩ | h
  · exact .inl (.inr ⟨ob, h⟩)
  · exact .inr h
/-! ### how a value that nobody changes any more stands in the abstract heap -/
mutual
inductive Frz (K : PySem.W.Frag) (H : Hp) (lab : Labs) : D → V → Prop where
  | non : Frz K H lab .non .non
  | bl (b : Bool) : Frz K H lab (.bl b) (.bl b)
  | int (i : Int) : Frz K H lab (.int i) (.int i)
  | str (s : Str) : Frz K H lab (.str s) (.str s)
  | ty (n : String) : Frz K H lab (.ty n) (.ty n)
  | tup {a : Addr} {ds : List D} {vs : List V} : H a = some (.tup vs) → FrzL K H lab ds vs → Frz K H lab (.tup ds) (.ref a)
  | ro {a : Addr} {ds : List D} {vs : List V} : RoL K H a vs → FrzL K H lab ds vs → Frz K H lab (.ro ds) (.ref a)
  | obj {a : Addr} {o : HO} {d : D} {ds : List D} {vs : List V} : H a = some o → lab a = .frz → Sh o d ds vs → FrzL K H lab ds vs → Frz K H lab d (.ref a)
inductive FrzL (K : PySem.W.Frag) (H : Hp) (lab : Labs) : List D → List V → Prop where
  | nil : FrzL K H lab [] []
  | cons {d : D} {v : V} {ds : List D} {vs : List V} : Frz K H lab d v → FrzL K H lab ds vs → FrzL K H lab (d :: ds) (v :: vs)
end
/-- whose changes are let: a slot's own objects alone may have changed -/
def Step (lab : Labs) (H : Hp) (lab' : Labs) (H' : Hp) : Prop := ∀ a o, H a = some o → (∀ i, lab a ≠ .slot i) → H' a = some o ∧ lab' a = lab a
/-- nothing has changed, things may have come -/
def Grow (lab : Labs) (H : Hp) (lab' : Labs) (H' : Hp) : Prop := ∀ a o, H a = some o → H' a = some o ∧ lab' a = lab a
/-- what bears a label is a changeable object of the heap -/
def Wf (lab : Labs) (H : Hp) : Prop := ∀ a, lab a ≠ .no → Mut (H a)
def Free (k : Nat) (lab : Labs) : Prop := ∀ j, k ≤ j → ∀ a, lab a ≠ .tmp j
theorem Grow.step {lab lab' : Labs} {H H' : Hp} (g : Grow lab H lab' H') : Step lab H lab' H' := fun a o h _ => g a o h
theorem Grow.refl (lab : Labs) (H : Hp) : Grow lab H lab H := fun _ _ h => ⟨h, rfl⟩
theorem Step.refl (lab : Labs) (H : Hp) : Step lab H lab H := fun _ _ h _ => ⟨h, rfl⟩
theorem Step.trans {lab lab1 lab2 : Labs} {H H1 H2 : Hp} (a : Step lab H lab1 H1) (b : Step lab1 H1 lab2 H2) : Step lab H lab2 H2 := fun x o h n => by
  obtain ⟨h1, l1⟩ := a x o h n
  obtain ⟨h2, l2⟩ := b x o h1 (fun i => by rw [l1]; exact n i)
  exact ⟨h2, l2.trans l1⟩
theorem Grow.trans {lab lab1 lab2 : Labs} {H H1 H2 : Hp} (a : Grow lab H lab1 H1) (b : Grow lab1 H1 lab2 H2) : Grow lab H lab2 H2 := fun x o h => by
  obtain ⟨h1, l1⟩ := a x o h
  obtain ⟨h2, l2⟩ := b x o h1
  exact ⟨h2, l2.trans l1⟩
theorem Free.mono {j k : Nat} {lab : Labs} (h : Free j lab) (l : j ≤ k) : Free k lab := fun i hi a => h i (Nat.le_trans l hi) a
theorem Wf.not_tup {lab : Labs} {H : Hp} {a : Addr} {xs : List V} (w : Wf lab H) (h : H a = some (.tup xs)) : lab a = .no := by
  by_cases e : lab a = .no
  · exact e
  · have := w a e
    rw [h] at this
    exact this.elim
theorem Wf.not_frz {lab : Labs} {H : Hp} {a : Addr} {ob : Obj} {u : HO} (w : Wf lab H) (h : H a = some (.frz ob u)) : lab a = .no := by
  by_cases e : lab a = .no
  · exact e
  · have := w a e
    rw [h] at this
    exact this.elim
theorem SqT.stp {K : PySem.W.Frag} {lab lab' : Labs} {H H' : Hp} {a : Addr} {xs : List V} (w : Wf lab H) (s : Step lab H lab' H') (h : SqT K H a xs) : SqT K H' a xs := by
  rcases h with (h | ⟨o, h⟩) | h
  · exact .inl (.inl (s a _ h (fun i => by rw [w.not_tup h]; exact fun e => nomatch e)).1)
  · exact .inl (.inr ⟨o, (s a _ h (fun i => by rw [w.not_frz h]; exact fun e => nomatch e)).1⟩)
  · exact .inr h
theorem RoL.stp {K : PySem.W.Frag} {lab lab' : Labs} {H H' : Hp} {a : Addr} {xs : List V} (w : Wf lab H) (s : Step lab H lab' H') (h : RoL K H a xs) : RoL K H' a xs := by
  rcases h with ⟨o, h⟩ | h
  · exact .inl ⟨o, (s a _ h (fun i => by rw [w.not_frz h]; exact fun e => nomatch e)).1⟩
  · exact .inr h
mutual
theorem Frz.stp {K : PySem.W.Frag} {lab lab' : Labs} {H H' : Hp} (w : Wf lab H) (s : Step lab H lab' H') : ∀ {d : D} {v : V}, Frz K H lab d v → Frz K H' lab' d v
  | _, _, .non => .non
  | _, _, .bl b => .bl b
  | _, _, .int i => .int i
  | _, _, .str x => .str x
  | _, _, .ty n => .ty n
  | _, _, .tup h t => .tup (s _ _ h (fun i => by rw [w.not_tup h]; exact fun e => nomatch e)).1 (FrzL.stp w s t)
  | _, _, .ro h t => .ro (RoL.stp w s h) (FrzL.stp w s t)
  | _, _, .obj h l sh t => .obj (s _ _ h (fun i => by rw [l]; exact fun e => nomatch e)).1 ((s _ _ h (fun i => by rw [l]; exact fun e => nomatch e)).2.trans l) sh (FrzL.stp w s t)
theorem FrzL.stp {K : PySem.W.Frag} {lab lab' : Labs} {H H' : Hp} (w : Wf lab H) (s : Step lab H lab' H') : ∀ {ds : List D} {vs : List V}, FrzL K H lab ds vs → FrzL K H' lab' ds vs
  | _, _, .nil => .nil
  | _, _, .cons h t => .cons (Frz.stp w s h) (FrzL.stp w s t)
end
mutual
/-- the labels changed alone, what is frozen stays so -/
theorem Frz.relab {K : PySem.W.Frag} {lab lab' : Labs} {H : Hp} (s : ∀ a, lab a = .frz → lab' a = .frz) : ∀ {d : D} {v : V}, Frz K H lab d v → Frz K H lab' d v
  | _, _, .non => .non
  | _, _, .bl b => .bl b
  | _, _, .int i => .int i
  | _, _, .str x => .str x
  | _, _, .ty n => .ty n
  | _, _, .tup h t => .tup h (FrzL.relab s t)
  | _, _, .ro h t => .ro h (FrzL.relab s t)
  | _, _, .obj h l sh t => .obj h (s _ l) sh (FrzL.relab s t)
theorem FrzL.relab {K : PySem.W.Frag} {lab lab' : Labs} {H : Hp} (s : ∀ a, lab a = .frz → lab' a = .frz) : ∀ {ds : List D} {vs : List V}, FrzL K H lab ds vs → FrzL K H lab' ds vs
  | _, _, .nil => .nil
  | _, _, .cons h t => .cons (Frz.relab s h) (FrzL.relab s t)
end
theorem FrzL.length {K : PySem.W.Frag} {lab : Labs} {H : Hp} : ∀ {ds : List D} {vs : List V}, FrzL K H lab ds vs → ds.length = vs.length
  | _, _, .nil => rfl
  | _, _, .cons _ t => congrArg (· + 1) t.length
theorem FrzL.get {K : PySem.W.Frag} {lab : Labs} {H : Hp} : ∀ {ds : List D} {vs : List V} {i : Nat} {d : D}, FrzL K H lab ds vs → ds[i]? = some d → ∃ v, vs[i]? = some v ∧ Frz K H lab d v
  | _, _, i, _, .nil, h => by simp at h
  | _, _, 0, _, .cons h _, e => by
    simp at e
    subst e
    exact ⟨_, rfl, h⟩
  | _, _, i + 1, _, .cons _ t, e => t.get (i := i) (by simpa using e)
theorem FrzL.getV {K : PySem.W.Frag} {lab : Labs} {H : Hp} : ∀ {ds : List D} {vs : List V} {i : Nat} {v : V}, FrzL K H lab ds vs → vs[i]? = some v → ∃ d, ds[i]? = some d ∧ Frz K H lab d v
  | _, _, i, _, .nil, h => by simp at h
  | _, _, 0, _, .cons h _, e => by
    simp at e
    subst e
    exact ⟨_, rfl, h⟩
  | _, _, i + 1, _, .cons _ t, e => t.getV (i := i) (by simpa using e)
theorem FrzL.append {K : PySem.W.Frag} {lab : Labs} {H : Hp} : ∀ {ds es : List D} {vs ws : List V}, FrzL K H lab ds vs → FrzL K H lab es ws → FrzL K H lab (ds ++ es) (vs ++ ws)
  | _, _, _, _, .nil, h => h
  | _, _, _, _, .cons h t, h' => .cons h (t.append h')
theorem FrzL.set {K : PySem.W.Frag} {lab : Labs} {H : Hp} {d : D} {v : V} (h : Frz K H lab d v) : ∀ {ds : List D} {vs : List V} (i : Nat), FrzL K H lab ds vs → FrzL K H lab (ds.set i d) (vs.set i v)
  | _, _, _, .nil => .nil
  | _, _, 0, .cons _ t => .cons h t
  | _, _, i + 1, .cons g t => .cons g (t.set h i)
theorem FrzL.take {K : PySem.W.Frag} {lab : Labs} {H : Hp} : ∀ {ds : List D} {vs : List V} (i : Nat), FrzL K H lab ds vs → FrzL K H lab (ds.take i) (vs.take i)
  | _, _, _, .nil => by simp; exact .nil
  | _, _, 0, .cons _ _ => .nil
  | _, _, i + 1, .cons g t => .cons g (t.take i)
theorem FrzL.drop {K : PySem.W.Frag} {lab : Labs} {H : Hp} : ∀ {ds : List D} {vs : List V} (i : Nat), FrzL K H lab ds vs → FrzL K H lab (ds.drop i) (vs.drop i)
  | _, _, _, .nil => by simp; exact .nil
  | _, _, 0, .cons g t => .cons g t
  | _, _, i + 1, .cons g t => t.drop i
theorem FrzL.eraseIdx {K : PySem.W.Frag} {lab : Labs} {H : Hp} : ∀ {ds : List D} {vs : List V} (i : Nat), FrzL K H lab ds vs → FrzL K H lab (ds.eraseIdx i) (vs.eraseIdx i)
  | _, _, _, .nil => .nil
  | _, _, 0, .cons _ t => t
  | _, _, i + 1, .cons g t => .cons g (t.eraseIdx i)
theorem FrzL.reverse {K : PySem.W.Frag} {lab : Labs} {H : Hp} : ∀ {ds : List D} {vs : List V}, FrzL K H lab ds vs → FrzL K H lab ds.reverse vs.reverse
  | _, _, .nil => .nil
  | _, _, .cons g t => by
    rw [List.reverse_cons, List.reverse_cons]
    exact t.reverse.append (.cons g .nil)
/-! ### owned things -/
/-- a changeable thing whose own object bears the label l; its parts are frozen -/
def Own (K : PySem.W.Frag) (H : Hp) (lab : Labs) (l : Lab) (d : D) (v : V) : Prop := ∃ a o ds vs, v = .ref a ∧ H a = some o ∧ lab a = l ∧ Sh o d ds vs ∧ FrzL K H lab ds vs
/-- kind 0: frozen; kind 1: owned under the label, if it is changeable at all; kind 2: lent -/
def Hold (K : PySem.W.Frag) (H : Hp) (lab : Labs) (l : Lab) : Nat → D → V → Prop
  | 0, d, v => Frz K H lab d v
  | 1, d, v => (d.mut = false ∧ Frz K H lab d v) ∨ Own K H lab l d v
  | _ + 2, d, v => Own K H lab .lent d v
/-- as it is read, whosever it is -/
def Rdv (K : PySem.W.Frag) (H : Hp) (lab : Labs) (d : D) (v : V) : Prop := Frz K H lab d v ∨ ∃ l, Own K H lab l d v
theorem Hold.rdv {K : PySem.W.Frag} {H : Hp} {lab : Labs} {l : Lab} {n : Nat} {d : D} {v : V} (h : Hold K H lab l n d v) : Rdv K H lab d v := by
  match n, h with
  | 0, h => exact .inl h
  | 1, h =>
    rcases h with ⟨_, h⟩ | h
    · exact .inl h
    · exact .inr ⟨_, h⟩
  | _ + 2, h => exact .inr ⟨_, h⟩
theorem Own.stp {K : PySem.W.Frag} {lab lab' : Labs} {H H' : Hp} {l : Lab} {d : D} {v : V} (w : Wf lab H) (s : Step lab H lab' H') (n : ∀ i, l ≠ .slot i) (h : Own K H lab l d v) : Own K H' lab' l d v := by
  obtain ⟨a, o, ds, vs, rfl, ha, hl, sh, t⟩ := h
  obtain ⟨h1, l1⟩ := s a o ha (fun i => by rw [hl]; exact n i)
  exact ⟨a, o, ds, vs, rfl, h1, l1.trans hl, sh, t.stp w s⟩
theorem Own.grow {K : PySem.W.Frag} {lab lab' : Labs} {H H' : Hp} {l : Lab} {d : D} {v : V} (w : Wf lab H) (s : Grow lab H lab' H') (h : Own K H lab l d v) : Own K H' lab' l d v := by
  obtain ⟨a, o, ds, vs, rfl, ha, hl, sh, t⟩ := h
  obtain ⟨h1, l1⟩ := s a o ha
  exact ⟨a, o, ds, vs, rfl, h1, l1.trans hl, sh, t.stp w s.step⟩
theorem Hold.stp {K : PySem.W.Frag} {lab lab' : Labs} {H H' : Hp} {l : Lab} {k : Nat} {d : D} {v : V} (w : Wf lab H) (s : Step lab H lab' H') (n : ∀ i, l ≠ .slot i) (h : Hold K H lab l k d v) : Hold K H' lab' l k d v := by
  match k, h with
  | 0, h => exact Frz.stp w s h
  | 1, h =>
    rcases h with ⟨m, h⟩ | h
    · exact .inl ⟨m, Frz.stp w s h⟩
    · exact .inr (h.stp w s n)
  | _ + 2, h => exact Own.stp w s (fun _ e => nomatch e) h
theorem Hold.grow {K : PySem.W.Frag} {lab lab' : Labs} {H H' : Hp} {l : Lab} {k : Nat} {d : D} {v : V} (w : Wf lab H) (s : Grow lab H lab' H') (h : Hold K H lab l k d v) : Hold K H' lab' l k d v := by
  match k, h with
  | 0, h => exact Frz.stp w s.step h
  | 1, h =>
    rcases h with ⟨m, h⟩ | h
    · exact .inl ⟨m, Frz.stp w s.step h⟩
    · exact .inr (h.grow w s)
  | _ + 2, h => exact Own.grow w s h
theorem Rdv.grow {K : PySem.W.Frag} {lab lab' : Labs} {H H' : Hp} {d : D} {v : V} (w : Wf lab H) (s : Grow lab H lab' H') (h : Rdv K H lab d v) : Rdv K H' lab' d v := by
  rcases h with h | ⟨l, h⟩
  · exact .inl (Frz.stp w s.step h)
  · exact .inr ⟨l, h.grow w s⟩
/-- labels changed alone -/
theorem Own.relab {K : PySem.W.Frag} {lab lab' : Labs} {H : Hp} {l l' : Lab} {d : D} {v : V} (s : ∀ a, lab a = .frz → lab' a = .frz) (e : ∀ a, lab a = l → lab' a = l') (h : Own K H lab l d v) : Own K H lab' l' d v := by
  obtain ⟨a, o, ds, vs, rfl, ha, hl, sh, t⟩ := h
  exact ⟨a, o, ds, vs, rfl, ha, e a hl, sh, t.relab s⟩
theorem Hold.relab {K : PySem.W.Frag} {lab lab' : Labs} {H : Hp} {l l' : Lab} {k : Nat} {d : D} {v : V} (s : ∀ a, lab a = .frz → lab' a = .frz) (t : ∀ a, lab a = .lent → lab' a = .lent) (e : ∀ a, lab a = l → lab' a = l') (h : Hold K H lab l k d v) : Hold K H lab' l' k d v := by
  match k, h with
  | 0, h => exact Frz.relab s h
  | 1, h =>
    rcases h with ⟨m, h⟩ | h
    · exact .inl ⟨m, Frz.relab s h⟩
    · exact .inr (h.relab s e)
  | _ + 2, h => exact Own.relab s t h
theorem Own.frz {K : PySem.W.Frag} {lab lab' : Labs} {H : Hp} {l : Lab} {d : D} {v : V} (s : ∀ a, lab a = .frz → lab' a = .frz) (e : ∀ a, lab a = l → lab' a = .frz) (h : Own K H lab l d v) : Frz K H lab' d v := by
  obtain ⟨a, o, ds, vs, rfl, ha, hl, sh, t⟩ := h
  exact .obj ha (e a hl) sh (t.relab s)
/-- what bore the label is frozen -/
theorem Hold.frz {K : PySem.W.Frag} {lab lab' : Labs} {H : Hp} {l : Lab} {k : Nat} {d : D} {v : V} (s : ∀ a, lab a = .frz → lab' a = .frz) (e : ∀ a, lab a = l → lab' a = .frz) (hk : k ≤ 1) (h : Hold K H lab l k d v) : Frz K H lab' d v := by
  match k, h with
  | 0, h => exact Frz.relab s h
  | 1, h =>
    rcases h with ⟨_, h⟩ | h
    · exact Frz.relab s h
    · exact h.frz s e
  | _ + 2, h => omega
/-! ### the slots -/
abbrev AS := List (Option (D × Nat))
structure FI (K : PySem.W.Frag) (H : Hp) (lab : Labs) (sa : AS) (σ : L2.St) : Prop where
  wf : Wf lab H
  len : sa.length = σ.length
  sl : ∀ (i : Nat) (d : D) (n : Nat), sa[i]? = some (some (d, n)) → ∃ v, σ[i]? = some (some v) ∧ Hold K H lab (.slot i) n d v
/-- from label l to label l' -/
def swp (lab : Labs) (l l' : Lab) : Labs := fun a => if lab a = l then l' else lab a
theorem swp_at {lab : Labs} {l l' : Lab} {a : Addr} (h : lab a = l) : swp lab l l' a = l' := by simp [swp, h]
theorem swp_ne {lab : Labs} {l l' : Lab} {a : Addr} (h : lab a ≠ l) : swp lab l l' a = lab a := by simp [swp, h]
theorem swp_keep {lab : Labs} {l l' x : Lab} {a : Addr} (n : x ≠ l) (h : lab a = x) : swp lab l l' a = x := by
  rw [swp_ne (by rw [h]; exact n), h]
theorem Wf.swap {lab : Labs} {H : Hp} {l l' : Lab} (w : Wf lab H) (n : l ≠ .no) : Wf (swp lab l l') H := fun a h => by
  by_cases e : lab a = l
  · exact w a (by rw [e]; exact n)
  · rw [swp_ne e] at h
    exact w a h
theorem Free.swap {lab : Labs} {k j : Nat} {l l' : Lab} (f : Free k lab) (n : ∀ i, j ≤ i → l' ≠ .tmp i) (h : ∀ i, j ≤ i → i < k → l = .tmp i) : Free j (swp lab l l') := fun i hi a e => by
  by_cases q : lab a = l
  · rw [swp_at q] at e
    exact n i hi e
  · rw [swp_ne q] at e
    by_cases hk : k ≤ i
    · exact f i hk a e
    · exact q (e.trans (h i hi (by omega)).symm)
/-- the slots see no change of other labels -/
theorem FI.swap {K : PySem.W.Frag} {H : Hp} {lab : Labs} {sa : AS} {σ : L2.St} {l l' : Lab} (I : FI K H lab sa σ) (n : l ≠ .no) (nf : l ≠ .frz) (nl : l ≠ .lent) (ns : ∀ i, l ≠ .slot i) : FI K H (swp lab l l') sa σ :=
  ⟨I.wf.swap n, I.len, fun i d k h => by
    obtain ⟨v, hv, r⟩ := I.sl i d k h
    exact ⟨v, hv, r.relab (fun a e => swp_keep nf.symm e) (fun a e => swp_keep nl.symm e) (fun a e => swp_keep (fun q => ns i q.symm) e)⟩⟩
theorem FI.grow {K : PySem.W.Frag} {H H' : Hp} {lab lab' : Labs} {sa : AS} {σ : L2.St} (I : FI K H lab sa σ) (g : Grow lab H lab' H') (w : Wf lab' H') : FI K H' lab' sa σ :=
  ⟨w, I.len, fun i d k h => by
    obtain ⟨v, hv, r⟩ := I.sl i d k h
    exact ⟨v, hv, r.grow I.wf g⟩⟩
/-- a slot's thing is frozen -/
theorem FI.freeze {K : PySem.W.Frag} {H : Hp} {lab : Labs} {sa : AS} {σ : L2.St} {i : Nat} {d : D} {n : Nat} (I : FI K H lab sa σ) (h : sa[i]? = some (some (d, n))) (hk : n ≤ 1) : FI K H (PV.swp lab (.slot i) .frz) (sa.set i (some (d, 0))) σ :=
  ⟨I.wf.swap (fun e => nomatch e), by rw [List.length_set]; exact I.len, fun j e k hj => by
    by_cases q : i = j
    · subst q
      have hi : i < sa.length := by
        rcases Nat.lt_or_ge i sa.length with h1 | h1
        · exact h1
        · rw [List.getElem?_eq_none h1] at h
          cases h
      rw [List.getElem?_set_self hi] at hj
      obtain ⟨v, hv, r⟩ := I.sl i d n h
      simp at hj
      obtain ⟨rfl, rfl⟩ := hj
      exact ⟨v, hv, r.frz (fun a e => swp_keep (fun q => nomatch q) e) (fun a e => swp_at e) hk⟩
    · rw [List.getElem?_set_ne q] at hj
      obtain ⟨v, hv, r⟩ := I.sl j e k hj
      exact ⟨v, hv, r.relab (fun a e => swp_keep (fun q => nomatch q) e) (fun a e => swp_keep (fun q => nomatch q) e) (fun a e => swp_keep (fun z => q (by cases z; rfl)) e)⟩⟩
/-- a slot is given a value in flight; what it had is frozen -/
theorem FI.put {K : PySem.W.Frag} {H : Hp} {lab : Labs} {sa : AS} {σ : L2.St} {i k : Nat} {d : D} {n : Nat} {v : V} (I : FI K H lab sa σ) (hi : i < sa.length) (r : Hold K H lab (.tmp k) n d v) :
    FI K H (PV.swp (PV.swp lab (.slot i) .frz) (.tmp k) (.slot i)) (sa.set i (some (d, n))) (σ.set i (some v)) :=
  ⟨Wf.swap (l := .tmp k) (Wf.swap (l := .slot i) I.wf (fun e => nomatch e)) (fun e => nomatch e), by rw [List.length_set, List.length_set]; exact I.len, fun j e m hj => by
    by_cases q : i = j
    · subst q
      rw [List.getElem?_set_self hi] at hj
      simp at hj
      obtain ⟨rfl, rfl⟩ := hj
      exact ⟨v, List.getElem?_set_self (by rw [← I.len]; exact hi), r.relab (fun a e => swp_keep (fun q => nomatch q) (swp_keep (fun q => nomatch q) e)) (fun a e => swp_keep (fun q => nomatch q) (swp_keep (fun q => nomatch q) e)) (fun a e => swp_at (swp_keep (fun q => nomatch q) e))⟩
    · rw [List.getElem?_set_ne q] at hj
      obtain ⟨u, hv, r'⟩ := I.sl j e m hj
      exact ⟨u, by rw [List.getElem?_set_ne q]; exact hv, r'.relab (fun a e => swp_keep (fun q => nomatch q) (swp_keep (fun q => nomatch q) e)) (fun a e => swp_keep (fun q => nomatch q) (swp_keep (fun q => nomatch q) e)) (fun a e => swp_keep (fun q => nomatch q) (swp_keep (fun z => q (by cases z; rfl)) e))⟩⟩
/-- a slot is emptied -/
theorem FI.unset {K : PySem.W.Frag} {H : Hp} {lab : Labs} {sa : AS} {σ σ' : L2.St} {i : Nat} (I : FI K H lab sa σ) (hl : σ'.length = σ.length) (h : ∀ j, j ≠ i → σ'[j]? = σ[j]?) : FI K H lab (sa.set i none) σ' :=
  ⟨I.wf, by rw [List.length_set, hl]; exact I.len, fun j e m hj => by
    by_cases q : i = j
    · subst q
      by_cases hi : i < sa.length
      · rw [List.getElem?_set_self hi] at hj
        simp at hj
      · rw [List.getElem?_eq_none (by rw [List.length_set]; omega)] at hj
        cases hj
    · rw [List.getElem?_set_ne q] at hj
      obtain ⟨u, hv, r⟩ := I.sl j e m hj
      exact ⟨u, by rw [h j (fun z => q z.symm)]; exact hv, r⟩⟩
theorem Frz.int_inv {K : PySem.W.Frag} {H : Hp} {lab : Labs} {i : Int} {v : V} (h : Frz K H lab (.int i) v) : v = .int i := by
  cases h with
  | int => rfl
  | obj _ _ sh _ => cases sh
theorem Rdv.int_inv {K : PySem.W.Frag} {H : Hp} {lab : Labs} {i : Int} {v : V} (h : Rdv K H lab (.int i) v) : v = .int i := by
  rcases h with h | ⟨_, _, _, _, _, _, _, _, sh, _⟩
  · exact h.int_inv
  · cases sh
theorem Frz.bl_inv {K : PySem.W.Frag} {H : Hp} {lab : Labs} {i : Bool} {v : V} (h : Frz K H lab (.bl i) v) : v = .bl i := by
  cases h with
  | bl => rfl
  | obj _ _ sh _ => cases sh
theorem Rdv.bl_inv {K : PySem.W.Frag} {H : Hp} {lab : Labs} {i : Bool} {v : V} (h : Rdv K H lab (.bl i) v) : v = .bl i := by
  rcases h with h | ⟨_, _, _, _, _, _, _, _, sh, _⟩
  · exact h.bl_inv
  · cases sh
theorem Frz.str_inv {K : PySem.W.Frag} {H : Hp} {lab : Labs} {i : Str} {v : V} (h : Frz K H lab (.str i) v) : v = .str i := by
  cases h with
  | str => rfl
  | obj _ _ sh _ => cases sh
theorem Rdv.str_inv {K : PySem.W.Frag} {H : Hp} {lab : Labs} {i : Str} {v : V} (h : Rdv K H lab (.str i) v) : v = .str i := by
  rcases h with h | ⟨_, _, _, _, _, _, _, _, sh, _⟩
  · exact h.str_inv
  · cases sh
theorem Frz.ty_inv {K : PySem.W.Frag} {H : Hp} {lab : Labs} {i : String} {v : V} (h : Frz K H lab (.ty i) v) : v = .ty i := by
  cases h with
  | ty => rfl
  | obj _ _ sh _ => cases sh
theorem Rdv.ty_inv {K : PySem.W.Frag} {H : Hp} {lab : Labs} {i : String} {v : V} (h : Rdv K H lab (.ty i) v) : v = .ty i := by
  rcases h with h | ⟨_, _, _, _, _, _, _, _, sh, _⟩
  · exact h.ty_inv
  · cases sh
theorem Frz.non_inv {K : PySem.W.Frag} {H : Hp} {lab : Labs} {v : V} (h : Frz K H lab .non v) : v = .non := by
  cases h with
  | non => rfl
  | obj _ _ sh _ => cases sh
theorem Rdv.non_inv {K : PySem.W.Frag} {H : Hp} {lab : Labs} {v : V} (h : Rdv K H lab .non v) : v = .non := by
  rcases h with h | ⟨_, _, _, _, _, _, _, _, sh, _⟩
  · exact h.non_inv
  · cases sh
theorem Frz.tup_inv {K : PySem.W.Frag} {H : Hp} {lab : Labs} {ds : List D} {v : V} (h : Frz K H lab (.tup ds) v) : ∃ a vs, v = .ref a ∧ SqT K H a vs ∧ FrzL K H lab ds vs := by
  cases h with
  | tup h t => exact ⟨_, _, rfl, .inl (.inl h), t⟩
  | obj _ _ sh _ => cases sh
/-- a tuple stands where it was made -/
theorem Frz.tup_at {K : PySem.W.Frag} {H : Hp} {lab : Labs} {ds : List D} {v : V} (h : Frz K H lab (.tup ds) v) : ∃ a vs, v = .ref a ∧ H a = some (.tup vs) ∧ FrzL K H lab ds vs := by
  cases h with
  | tup h t => exact ⟨_, _, rfl, h, t⟩
  | obj _ _ sh _ => cases sh
theorem Rdv.tup_inv {K : PySem.W.Frag} {H : Hp} {lab : Labs} {ds : List D} {v : V} (h : Rdv K H lab (.tup ds) v) : ∃ a vs, v = .ref a ∧ SqT K H a vs ∧ FrzL K H lab ds vs := by
  rcases h with h | ⟨_, _, _, _, _, _, _, _, sh, _⟩
  · exact h.tup_inv
  · cases sh
theorem Rdv.tup_at {K : PySem.W.Frag} {H : Hp} {lab : Labs} {ds : List D} {v : V} (h : Rdv K H lab (.tup ds) v) : ∃ a vs, v = .ref a ∧ H a = some (.tup vs) ∧ FrzL K H lab ds vs := by
  rcases h with h | ⟨_, _, _, _, _, _, _, _, sh, _⟩
  · exact h.tup_at
  · cases sh
theorem Rdv.ro_inv {K : PySem.W.Frag} {H : Hp} {lab : Labs} {ds : List D} {v : V} (h : Rdv K H lab (.ro ds) v) : ∃ a vs, v = .ref a ∧ SqL K H a vs ∧ FrzL K H lab ds vs := by
  rcases h with h | ⟨_, _, _, _, _, _, _, _, sh, _⟩
  · cases h with
    | ro h t => exact ⟨_, _, rfl, h.sql, t⟩
    | obj _ _ sh _ => cases sh
  · cases sh
theorem Rdv.lst_inv {K : PySem.W.Frag} {H : Hp} {lab : Labs} {ds : List D} {v : V} (h : Rdv K H lab (.lst ds) v) : ∃ a vs, v = .ref a ∧ H a = some (.lst vs) ∧ FrzL K H lab ds vs := by
  rcases h with h | ⟨_, a, _, _, _, rfl, ha, _, sh, t⟩
  · cases h with
    | obj ha _ sh t =>
      cases sh
      exact ⟨_, _, rfl, ha, t⟩
  · cases sh
    exact ⟨a, _, rfl, ha, t⟩
/-- a list, a list that is read alone, a tuple: its items -/
def D.items : D → Option (List D)
  | .lst ds => some ds
  | .ro ds => some ds
  | .tup ds => some ds
  | _ => none
/-- a list of either kind -/
def D.items? : D → Option (List D)
  | .lst ds => some ds
  | .ro ds => some ds
  | _ => none
theorem Rdv.seq {K : PySem.W.Frag} {H : Hp} {lab : Labs} {d : D} {ds : List D} {v : V} (h : Rdv K H lab d v) (e : d.items = some ds) : ∃ a vs, v = .ref a ∧ (SqL K H a vs ∨ SqT K H a vs) ∧ FrzL K H lab ds vs := by
  cases d <;> simp [D.items] at e
  · subst e
    obtain ⟨a, vs, e, hs, t⟩ := h.tup_inv
    exact ⟨a, vs, e, .inr hs, t⟩
  · subst e
    obtain ⟨a, vs, e, hs, t⟩ := h.lst_inv
    exact ⟨a, vs, e, .inl (.inl (.inl hs)), t⟩
  · subst e
    obtain ⟨a, vs, e, hs, t⟩ := h.ro_inv
    exact ⟨a, vs, e, .inl hs, t⟩
theorem Rdv.seqL {K : PySem.W.Frag} {H : Hp} {lab : Labs} {d : D} {ds : List D} {v : V} (h : Rdv K H lab d v) (e : d.items? = some ds) : ∃ a vs, v = .ref a ∧ SqL K H a vs ∧ FrzL K H lab ds vs := by
  cases d <;> simp [D.items?] at e
  · subst e
    obtain ⟨a, vs, e, hs, t⟩ := h.lst_inv
    exact ⟨a, vs, e, .inl (.inl hs), t⟩
  · subst e
    obtain ⟨a, vs, e, hs, t⟩ := h.ro_inv
    exact ⟨a, vs, e, hs, t⟩
end PV
/-! PV 2: expressions as functions of the slots; arguments; operations by values -/
namespace PV
open PySem PySem.Spec PyProof.Rows L2
/-- an outcome: a value, an exception, or nothing is said -/
inductive R (S A : Type) where
  | ok (a : A) (s : S)
  | ex (x : D) (s : S)
  | no
abbrev AE := AS → R AS D
abbrev AT := AS → R AS Bool
/-- an exception as it flies: its class by its name in the module -/
def XOk (mg : Str → Option Value) (H : Hp) (x : D) (cls : Value) (dx : Option Addr) : Prop := match x with
  | .exc nm [] => mg nm = some cls ∧ dx = none
  | _ => False
section
variable (K : PySem.W.Frag) (mg : Str → Option Value) (W : WX)
/-- the reading of an expression that is f, of kind n -/
def tEv (n : Bool) (f : AE) : TE := fun σ H Q => ∃ lab sa k, FI K H lab sa σ ∧ Free k lab ∧ match f sa with
  | .ok d s => ∀ v H' lab', FI K H' lab' s σ → Step lab H lab' H' → Free (k + 1) lab' → Hold K H' lab' (.tmp k) n.toNat d v → Q v H'
  | .ex x s => ∀ H' lab' cls dx, FI K H' lab' s σ → Step lab H lab' H' → Free k lab' → XOk mg H' x cls dx → W cls dx σ H'
  | .no => False
/-- of a test -/
def tTv (f : AT) : TT := fun σ H Q => ∃ lab sa k, FI K H lab sa σ ∧ Free k lab ∧ match f sa with
  | .ok b s => ∀ H' lab', FI K H' lab' s σ → Step lab H lab' H' → Free k lab' → Q b H'
  | .ex x s => ∀ H' lab' cls dx, FI K H' lab' s σ → Step lab H lab' H' → Free k lab' → XOk mg H' x cls dx → W cls dx σ H'
  | .no => False
end
/-- an operand: a name that is looked at, or an expression -/
inductive Arg where
  | vw (i : Nat)
  | ev (n : Bool) (f : AE)
def evArgs : List Arg → AS → R AS (List (Nat ⊕ D))
  | [], s => .ok [] s
  | .vw i :: r, s => match s[i]? with
    | some (some _) => (match evArgs r s with
      | .ok xs s' => .ok (.inl i :: xs) s'
      | .ex x s' => .ex x s'
      | .no => .no)
    | _ => .no
  | .ev _ f :: r, s => match f s with
    | .ok d s1 => (match evArgs r s1 with
      | .ok xs s' => .ok (.inr d :: xs) s'
      | .ex x s' => .ex x s'
      | .no => .no)
    | .ex x s1 => .ex x s1
    | .no => .no
def fetch (s : AS) : Nat ⊕ D → Option D
  | .inl i => match s[i]? with
    | some (some (d, _)) => some d
    | _ => none
  | .inr d => some d
def fetchAll (s : AS) : List (Nat ⊕ D) → Option (List D)
  | [] => some []
  | x :: r => match fetch s x, fetchAll s r with
    | some d, some ds => some (d :: ds)
    | _, _ => none
inductive RelAs (K : PySem.W.Frag) (H : Hp) (lab : Labs) (σ : L2.St) : List (Nat ⊕ D) → List V → Prop where
  | nil : RelAs K H lab σ [] []
  | vw {i : Nat} {v : V} {xs : List (Nat ⊕ D)} {vs : List V} : σ[i]? = some (some v) → RelAs K H lab σ xs vs → RelAs K H lab σ (.inl i :: xs) (v :: vs)
  | ev {d : D} {v : V} {xs : List (Nat ⊕ D)} {vs : List V} : Frz K H lab d v → RelAs K H lab σ xs vs → RelAs K H lab σ (.inr d :: xs) (v :: vs)
/-- values as they are read -/
inductive Rdvs (K : PySem.W.Frag) (H : Hp) (lab : Labs) : List D → List V → Prop where
  | nil : Rdvs K H lab [] []
  | cons {d : D} {v : V} {ds : List D} {vs : List V} : Rdv K H lab d v → Rdvs K H lab ds vs → Rdvs K H lab (d :: ds) (v :: vs)
def tArg (K : PySem.W.Frag) (mg : Str → Option Value) (W : WX) : Arg → TE
  | .vw i => tVar i
  | .ev n f => tEv K mg W n f
def tArgs (K : PySem.W.Frag) (mg : Str → Option Value) (W : WX) : List Arg → TA
  | [] => tNil
  | a :: r => tCons (tArg K mg W a) (tArgs K mg W r)
theorem Step.swpTmp {lab lab' : Labs} {H H' : Hp} {k : Nat} {l : Lab} (f : Free k lab) (s : Step lab H lab' H') : Step lab H (swp lab' (.tmp k) l) H' := fun a o h n => by
  obtain ⟨h1, l1⟩ := s a o h n
  exact ⟨h1, by rw [swp_ne (by rw [l1]; exact f k (Nat.le_refl _) a), l1]⟩
theorem Free.frzTmp {lab : Labs} {k : Nat} (f : Free (k + 1) lab) : Free k (swp lab (.tmp k) .frz) := f.swap (fun _ _ => fun e => nomatch e) (fun i h1 h2 => by rw [show i = k by omega])
section
variable {K : PySem.W.Frag} {mg : Str → Option Value} {W : WX}
theorem RelAs.rd {H : Hp} {lab : Labs} {sa : AS} {σ : L2.St} (I : FI K H lab sa σ) : ∀ {xs : List (Nat ⊕ D)} {vs : List V} {ds : List D}, RelAs K H lab σ xs vs → fetchAll sa xs = some ds → Rdvs K H lab ds vs
  | _, _, _, .nil, e => by
    simp [fetchAll] at e
    subst e
    exact .nil
  | .inl i :: r, _, _, .vw h t, e => by
    simp only [fetchAll] at e
    cases h1 : fetch sa (.inl i) with
    | none => rw [h1] at e; cases e
    | some d =>
      cases h2 : fetchAll sa r with
      | none => rw [h1, h2] at e; cases e
      | some ds =>
        rw [h1, h2] at e
        cases e
        refine .cons ?_ (RelAs.rd I t h2)
        simp only [fetch] at h1
        split at h1
        · rename_i d' n hs
          cases h1
          obtain ⟨v, hv, r⟩ := I.sl _ _ _ hs
          rw [h] at hv
          cases hv
          exact r.rdv
        · cases h1
  | .inr d :: r, _, _, .ev h t, e => by
    simp only [fetchAll, fetch] at e
    cases h2 : fetchAll sa r with
    | none => rw [h2] at e; cases e
    | some ds =>
      rw [h2] at e
      cases e
      exact .cons (.inl h) (RelAs.rd I t h2)
theorem args_ok : ∀ (args : List Arg) {sa : AS} {lab : Labs} {H : Hp} {σ : L2.St} {k : Nat} {Q : List V → Hp → Prop}, FI K H lab sa σ → Free k lab →
    (match evArgs args sa with
      | .ok xs s => ∀ vs H' lab', FI K H' lab' s σ → Step lab H lab' H' → Free k lab' → RelAs K H' lab' σ xs vs → Q vs H'
      | .ex x s => ∀ H' lab' cls dx, FI K H' lab' s σ → Step lab H lab' H' → Free k lab' → XOk mg H' x cls dx → W cls dx σ H'
      | .no => False) → tArgs K mg W args σ H Q
  | [], sa, lab, H, σ, k, Q, I, f, h => h [] H lab I (Step.refl _ _) f .nil
  | .vw i :: r, sa, lab, H, σ, k, Q, I, f, h => by
    simp only [evArgs] at h
    cases hs : sa[i]? with
    | none => rw [hs] at h; exact h.elim
    | some o =>
      cases o with
      | none => rw [hs] at h; exact h.elim
      | some p =>
        obtain ⟨d, n⟩ := p
        rw [hs] at h
        obtain ⟨v, hv, _⟩ := I.sl i d n hs
        refine ⟨v, hv, args_ok r I f ?_⟩
        cases hr : evArgs r sa with
        | ok xs s =>
          rw [hr] at h
          exact fun vs H' lab' I' st f' rel => h (v :: vs) H' lab' I' st f' (.vw hv rel)
        | ex x s =>
          rw [hr] at h
          exact h
        | no => rw [hr] at h; exact h
  | .ev n g :: r, sa, lab, H, σ, k, Q, I, f, h => by
    simp only [evArgs] at h
    show tEv K mg W n g σ H _
    refine ⟨lab, sa, k, I, f, ?_⟩
    cases hg : g sa with
    | ok d s1 =>
      rw [hg] at h
      dsimp only at h
      intro v H1 lab1 I1 st1 f1 hold
      have st : Step lab H (swp lab1 (.tmp k) .frz) H1 := st1.swpTmp f
      have I2 : FI K H1 (swp lab1 (.tmp k) .frz) s1 σ := I1.swap (fun e => nomatch e) (fun e => nomatch e) (fun e => nomatch e) (fun _ e => nomatch e)
      have hf : Frz K H1 (swp lab1 (.tmp k) .frz) d v := hold.frz (fun a e => swp_keep (fun q => nomatch q) e) (fun a e => swp_at e) (by cases n <;> decide)
      refine args_ok r I2 f1.frzTmp ?_
      cases hr : evArgs r s1 with
      | ok xs s =>
        rw [hr] at h
        exact fun vs H' lab' I' st' f' rel => h (v :: vs) H' lab' I' (st.trans st') f' (.ev (Frz.stp I2.wf st' hf) rel)
      | ex x s =>
        rw [hr] at h
        exact fun H' lab' cls dx I' st' f' xo => h H' lab' cls dx I' (st.trans st') f' xo
      | no => rw [hr] at h; exact h
    | ex x s1 =>
      rw [hg] at h
      exact h
    | no => rw [hg] at h; exact h
end
section
variable {K : PySem.W.Frag} {mg : Str → Option Value} {W : WX}
theorem tEv_mono {n : Bool} {f : AE} {σ : L2.St} {H : Hp} {Q Q' : VK} (h : tEv K mg W n f σ H Q) (m : ∀ v H1, Q v H1 → Q' v H1) : tEv K mg W n f σ H Q' := by
  obtain ⟨lab, sa, k, I, f', t⟩ := h
  refine ⟨lab, sa, k, I, f', ?_⟩
  cases hf : f sa with
  | ok d s => rw [hf] at t; exact fun v H' lab' I' st f' r => m _ _ (t v H' lab' I' st f' r)
  | ex x s => rw [hf] at t; exact t
  | no => rw [hf] at t; exact t
theorem tArg_mono : ∀ {a : Arg} {σ : L2.St} {H : Hp} {Q Q' : VK}, tArg K mg W a σ H Q → (∀ v H1, Q v H1 → Q' v H1) → tArg K mg W a σ H Q'
  | .vw _, _, _, _, _, ⟨v, hv, h⟩, m => ⟨v, hv, m _ _ h⟩
  | .ev _ _, _, _, _, _, h, m => tEv_mono h m
theorem tArgs_mono : ∀ {as : List Arg} {σ : L2.St} {H : Hp} {Q Q' : List V → Hp → Prop}, tArgs K mg W as σ H Q → (∀ vs H1, Q vs H1 → Q' vs H1) → tArgs K mg W as σ H Q'
  | [], _, _, _, _, h, m => m _ _ h
  | a :: as, _, _, _, _, h, m => tArg_mono (a := a) h fun v H1 h1 => tArgs_mono (as := as) h1 fun vs H2 h2 => m _ _ h2
end
theorem pe_mono {X : Cx} {e : Expr} {t t' : TE} (h : PE X e t) (m : ∀ σ H Q, t' σ H Q → t σ H Q) : PE X e t' := ⟨fun pins s σ H Q I q => h.run pins s σ H Q I (m σ H Q q)⟩
theorem pt_mono {X : Cx} {e : Expr} {t t' : TT} (h : PT X e t) (m : ∀ σ H Q, t' σ H Q → t σ H Q) : PT X e t' := ⟨fun pins s σ H Q I q => h.run pins s σ H Q I (m σ H Q q)⟩
theorem ps_mono {X : Cx} {st : Stmt} {t t' : TS} (h : PS X st t) (m : ∀ D σ H, t' D σ H → t D σ H) : PS X st t' := ⟨fun pins s σ H D I q => h.run pins s σ H D I (m D σ H q)⟩
theorem pss_mono {X : Cx} {st : List Stmt} {t t' : TS} (h : PSs X st t) (m : ∀ D σ H, t' D σ H → t D σ H) : PSs X st t' := ⟨fun pins s σ H D I q => h.run pins s σ H D I (m D σ H q)⟩
theorem pi_mono {X : Cx} {tg it : Expr} {t t' : TI} (h : PI X tg it t) (m : ∀ σ H R, t' σ H R → t σ H R) : PI X tg it t' := ⟨fun pins s σ H R I q => h.run pins s σ H R I (m σ H R q)⟩
/-! ### the judgements -/
abbrev ME (X : Cx) (W : WX) (e : Expr) (n : Bool) (f : AE) : Prop := PE X e (tEv X.K X.mg W n f)
abbrev MT (X : Cx) (W : WX) (e : Expr) (f : AT) : Prop := PT X e (tTv X.K X.mg W f)
/-- an operand -/
abbrev MA (X : Cx) (W : WX) (e : Expr) (a : Arg) : Prop := PE X e (tArg X.K X.mg W a)
/-- operands -/
abbrev MAs (X : Cx) (W : WX) (es : List Expr) (as : List Arg) : Prop := PA X es (tArgs X.K X.mg W as)
section
variable {X : Cx} {W : WX}
theorem mas_nil : MAs X W [] [] := pa_nil
theorem mas_cons {e : Expr} {es : List Expr} {a : Arg} {as : List Arg} (h : MA X W e a) (t : MAs X W es as) (hs : starEach (e :: es) X.env = (false, eval e X.env) :: starEach es X.env := by rfl) : MAs X W (e :: es) (a :: as) := pa_cons h t hs
theorem ma_ev {e : Expr} {n : Bool} {f : AE} (h : ME X W e n f) : MA X W e (.ev n f) := h
end
/-! ### what an operation leaves -/
/-- its value, of kind m, over a heap that has grown -/
def Res (K : PySem.W.Frag) (H : Hp) (lab : Labs) (k : Nat) (m : Bool) (d : D) (v : V) (H' : Hp) : Prop := ∃ lab', Grow lab H lab' H' ∧ Wf lab' H' ∧ Free (k + 1) lab' ∧ Hold K H' lab' (.tmp k) m.toNat d v
/-- an operation by values: r asks of the values what g d says -/
def OpOk (K : PySem.W.Frag) (g : List D → Option D) (m : Bool) (r : List V → Hp → VK → Prop) : Prop :=
  ∀ (H : Hp) (lab : Labs) (k : Nat) (ds : List D) (vs : List V) (d : D) (Q : VK), Wf lab H → Free k lab → Rdvs K H lab ds vs → g ds = some d → (∀ v H', Res K H lab k m d v H' → Q v H') → r vs H Q
def fAp (g : List D → Option D) (args : List Arg) : AE := fun sa => match evArgs args sa with
  | .ok xs s => (match fetchAll s xs with
    | some ds => (match g ds with
      | some d => .ok d s
      | none => .no)
    | none => .no)
  | .ex x s => .ex x s
  | .no => .no
section
variable {K : PySem.W.Frag} {mg : Str → Option Value} {W : WX}
/-- THE STEP of every operation on operands -/
theorem ap_ok {g : List D → Option D} {m : Bool} {r : List V → Hp → VK → Prop} {args : List Arg} (h : OpOk K g m r) {σ : L2.St} {H : Hp} {Q : VK} (t : tEv K mg W m (fAp g args) σ H Q) : tArgs K mg W args σ H fun vs H1 => r vs H1 Q := by
  obtain ⟨lab, sa, k, I, f, t⟩ := t
  refine args_ok args I f ?_
  simp only [fAp] at t
  cases he : evArgs args sa with
  | ok xs s =>
    rw [he] at t
    simp only at t
    intro vs H' lab' I' st f' rel
    cases hf : fetchAll s xs with
    | none => rw [hf] at t; exact t.elim
    | some ds =>
      rw [hf] at t
      simp only at t
      cases hg : g ds with
      | none => rw [hg] at t; exact t.elim
      | some d =>
        rw [hg] at t
        refine h H' lab' k ds vs d Q I'.wf f' (rel.rd I' hf) hg fun v H2 res => ?_
        obtain ⟨lab2, gr, w2, f2, hold⟩ := res
        exact t v H2 lab2 (I'.grow gr w2) (st.trans gr.step) f2 hold
  | ex x s =>
    rw [he] at t
    exact t
  | no => rw [he] at t; exact t
theorem res_pure {H : Hp} {lab : Labs} {k : Nat} {m : Bool} {d : D} {v : V} (w : Wf lab H) (f : Free k lab) (h : Frz K H lab d v) (hm : m = false ∨ d.mut = false) : Res K H lab k m d v H := by
  refine ⟨lab, Grow.refl _ _, w, f.mono (Nat.le_succ _), ?_⟩
  cases m with
  | false => exact h
  | true => exact .inl ⟨hm.resolve_left (by simp), h⟩
theorem res_tup {H : Hp} {lab : Labs} {k : Nat} {m : Bool} {p : Addr} {ds : List D} {vs : List V} (w : Wf lab H) (f : Free k lab) (hp : H p = none) (h : FrzL K H lab ds vs) : Res K H lab k m (.tup ds) (.ref p) (upd H p (.tup vs)) := by
  have hl : lab p = .no := by
    by_cases e : lab p = .no
    · exact e
    · have := w p e
      rw [hp] at this
      exact this.elim
  have g : Grow lab H lab (upd H p (.tup vs)) := fun a o e => by
    by_cases q : a = p
    · rw [q, hp] at e; cases e
    · exact ⟨by rw [upd_ne q]; exact e, rfl⟩
  have w' : Wf lab (upd H p (.tup vs)) := fun a e => by
    by_cases q : a = p
    · rw [q] at e; exact absurd hl e
    · rw [upd_ne q]; exact w a e
  refine ⟨lab, g, w', f.mono (Nat.le_succ _), ?_⟩
  have hf : Frz K (upd H p (.tup vs)) lab (.tup ds) (.ref p) := .tup upd_same (h.stp w g.step)
  cases m with
  | false => exact hf
  | true => exact .inl ⟨rfl, hf⟩
/-- a new label at one address -/
def labAt (lab : Labs) (p : Addr) (l : Lab) : Labs := fun a => if a = p then l else lab a
theorem labAt_same {lab : Labs} {p : Addr} {l : Lab} : labAt lab p l p = l := by simp [labAt]
theorem labAt_ne {lab : Labs} {p a : Addr} {l : Lab} (h : a ≠ p) : labAt lab p l a = lab a := by simp [labAt, h]
theorem grow_new {H : Hp} {lab : Labs} {p : Addr} {o : HO} {l : Lab} (hp : H p = none) : Grow lab H (labAt lab p l) (upd H p o) := fun a u e => by
  have q : a ≠ p := fun q => by rw [q, hp] at e; cases e
  exact ⟨by rw [upd_ne q]; exact e, labAt_ne q⟩
theorem wf_new {H : Hp} {lab : Labs} {p : Addr} {o : HO} {l : Lab} (w : Wf lab H) (m : Mut (some o)) : Wf (labAt lab p l) (upd H p o) := fun a e => by
  by_cases q : a = p
  · rw [q, upd_same]; exact m
  · rw [upd_ne q]
    rw [labAt_ne q] at e
    exact w a e
theorem res_obj {H : Hp} {lab : Labs} {k : Nat} {p : Addr} {o : HO} {d : D} {ds : List D} {vs : List V} (w : Wf lab H) (f : Free k lab) (hp : H p = none) (sh : Sh o d ds vs) (h : FrzL K H lab ds vs) : Res K H lab k true d (.ref p) (upd H p o) := by
  have g := grow_new (lab := lab) (o := o) (l := .tmp k) hp
  refine ⟨labAt lab p (.tmp k), g, wf_new w sh.mut, fun i hi a e => ?_, .inr ⟨p, o, ds, vs, rfl, upd_same, labAt_same, sh, h.stp w g.step⟩⟩
  by_cases q : a = p
  · rw [q, labAt_same] at e
    cases e
    omega
  · rw [labAt_ne q] at e
    exact f i (by omega) a e
end
end PV
/-! PV 3: names, constants, displays, tests; statements -/
namespace PV
open PySem PySem.Spec PyProof.Rows L2
/-! ### names and constants -/
/-- a name's value handed on: what the slot owned is frozen; what is lent is not handed on -/
def fVar (i : Nat) : AE := fun s => match s[i]? with
  | some (some (d, 0)) => .ok d s
  | some (some (d, 1)) => .ok d (s.set i (some (d, 0)))
  | _ => .no
/-- a name's value moved out of its slot -/
def fMv (i : Nat) : AE := fun s => match s[i]? with
  | some (some (d, 1)) => .ok d (s.set i none)
  | some (some (d, 0)) => if d.mut then .no else .ok d s
  | _ => .no
def fC (d : D) : AE := fun s => .ok d s
theorem step_swp {lab : Labs} {H : Hp} {i : Nat} {l : Lab} : Step lab H (swp lab (.slot i) l) H := fun a _ h n => ⟨h, swp_ne (n i)⟩
section
variable {X : Cx} {W : WX}
theorem me_var {e : Expr} {i : Nat} (h : PE X e (tVar i)) : ME X W e false (fVar i) := pe_mono h fun σ H Q t => by
  obtain ⟨lab, sa, k, I, f, t⟩ := t
  simp only [fVar] at t
  split at t
  · rename_i d s hm
    split at hm
    · rename_i d' hs
      cases hm
      obtain ⟨v, hv, r⟩ := I.sl _ _ _ hs
      exact ⟨v, hv, t v H lab I (Step.refl _ _) (f.mono (Nat.le_succ _)) r⟩
    · rename_i d' hs
      cases hm
      obtain ⟨v, hv, r⟩ := I.sl _ _ _ hs
      refine ⟨v, hv, t v H (swp lab (.slot i) .frz) (I.freeze hs (Nat.le_refl _)) step_swp ?_ ?_⟩
      · exact f.swap (fun _ _ e => nomatch e) (fun j h1 h2 => by omega)
      · exact r.frz (fun a e => swp_keep (fun q => nomatch q) e) (fun a e => swp_at e) (Nat.le_refl _)
    · cases hm
  · rename_i x s hm
    split at hm <;> cases hm
  · exact t.elim
theorem me_mv {e : Expr} {i : Nat} (h : PE X e (tVar i)) : ME X W e true (fMv i) := pe_mono h fun σ H Q t => by
  obtain ⟨lab, sa, k, I, f, t⟩ := t
  simp only [fMv] at t
  split at t
  · rename_i d s hm
    split at hm
    · rename_i d' hs
      cases hm
      obtain ⟨v, hv, r⟩ := I.sl _ _ _ hs
      refine ⟨v, hv, t v H (swp lab (.slot i) (.tmp k)) ⟨I.wf.swap (fun e => nomatch e), by rw [List.length_set]; exact I.len, fun j e m hj => ?_⟩ step_swp ?_ ?_⟩
      · by_cases q : i = j
        · subst q
          by_cases hi : i < sa.length
          · rw [List.getElem?_set_self hi] at hj
            simp at hj
          · rw [List.getElem?_eq_none (by rw [List.length_set]; omega)] at hj
            cases hj
        · rw [List.getElem?_set_ne q] at hj
          obtain ⟨u, hu, r'⟩ := I.sl j e m hj
          exact ⟨u, hu, r'.relab (fun a e => swp_keep (fun q => nomatch q) e) (fun a e => swp_keep (fun q => nomatch q) e) (fun a e => swp_keep (fun z => q (by cases z; rfl)) e)⟩
      · exact f.swap (fun j hj e => by cases e; omega) (fun j h1 h2 => by omega)
      · exact r.relab (fun a e => swp_keep (fun q => nomatch q) e) (fun a e => swp_keep (fun q => nomatch q) e) (fun a e => swp_at e)
    · rename_i d' hs
      split at hm
      · cases hm
      · rename_i hd
        cases hm
        obtain ⟨v, hv, r⟩ := I.sl _ _ _ hs
        exact ⟨v, hv, t v H lab I (Step.refl _ _) (f.mono (Nat.le_succ _)) (.inl ⟨by simpa using hd, r⟩)⟩
    · cases hm
  · rename_i x s hm
    split at hm
    · cases hm
    · split at hm <;> cases hm
    · cases hm
  · exact t.elim
/-- a scalar constant -/
theorem me_c {e : Expr} {d : D} {v : V} (h : PE X e (tC v)) (hd : ∀ (K : PySem.W.Frag) (H : Hp) (lab : Labs), Frz K H lab d v) : ME X W e false (fC d) := pe_mono h fun σ H Q t => by
  obtain ⟨lab, sa, k, I, f, t⟩ := t
  exact t v H lab I (Step.refl _ _) (f.mono (Nat.le_succ _)) (hd _ _ _)
theorem me_int {i j pos} : ME X W (.Constant (.int i) j pos) false (fC (.int i)) := me_c pe_int fun _ _ _ => .int _
theorem me_bl {b j pos} : ME X W (.Constant (.bool b) j pos) false (fC (.bl b)) := me_c pe_bl fun _ _ _ => .bl _
theorem me_non {j pos} : ME X W (.Constant .none j pos) false (fC .non) := me_c pe_non fun _ _ _ => .non
theorem me_str {x j pos} : ME X W (.Constant (.str x) j pos) false (fC (.str x)) := me_c pe_str fun _ _ _ => .str _
/-- a scalar of any expression is of both kinds; an owned value may be frozen -/
theorem me_low {e : Expr} {f : AE} (h : ME X W e true f) : ME X W e false f := pe_mono h fun σ H Q t => by
  obtain ⟨lab, sa, k, I, fr, t⟩ := t
  refine ⟨lab, sa, k, I, fr, ?_⟩
  cases hf : f sa with
  | ok d s =>
    rw [hf] at t
    intro v H' lab' I' st f' r
    exact t v H' (swp lab' (.tmp k) .frz) (I'.swap (fun e => nomatch e) (fun e => nomatch e) (fun e => nomatch e) (fun _ e => nomatch e)) (st.swpTmp fr) (f'.frzTmp.mono (Nat.le_succ _)) (r.frz (fun a e => swp_keep (fun q => nomatch q) e) (fun a e => swp_at e) (Nat.le_refl _))
  | ex x s => rw [hf] at t; exact t
  | no => rw [hf] at t; exact t
end
/-! ### operands that are kept: displays -/
def inrAll : List (Nat ⊕ D) → Option (List D)
  | [] => some []
  | .inr d :: r => (inrAll r).map (d :: ·)
  | .inl _ :: _ => none
def fApF (g : List D → Option D) (args : List Arg) : AE := fun sa => match evArgs args sa with
  | .ok xs s => (match inrAll xs with
    | some ds => (match g ds with
      | some d => .ok d s
      | none => .no)
    | none => .no)
  | .ex x s => .ex x s
  | .no => .no
def OpOkF (K : PySem.W.Frag) (g : List D → Option D) (m : Bool) (r : List V → Hp → VK → Prop) : Prop :=
  ∀ (H : Hp) (lab : Labs) (k : Nat) (ds : List D) (vs : List V) (d : D) (Q : VK), Wf lab H → Free k lab → FrzL K H lab ds vs → g ds = some d → (∀ v H', Res K H lab k m d v H' → Q v H') → r vs H Q
section
variable {K : PySem.W.Frag} {mg : Str → Option Value} {W : WX}
theorem RelAs.frz {H : Hp} {lab : Labs} {σ : L2.St} : ∀ {xs : List (Nat ⊕ D)} {vs : List V} {ds : List D}, RelAs K H lab σ xs vs → inrAll xs = some ds → FrzL K H lab ds vs
  | _, _, _, .nil, e => by
    simp [inrAll] at e
    subst e
    exact .nil
  | .inl i :: r, _, _, .vw h t, e => by simp [inrAll] at e
  | .inr d :: r, _, _, .ev h t, e => by
    simp only [inrAll] at e
    cases h2 : inrAll r with
    | none => rw [h2] at e; cases e
    | some ds =>
      rw [h2] at e
      cases e
      exact .cons h (RelAs.frz t h2)
theorem apF_ok {g : List D → Option D} {m : Bool} {r : List V → Hp → VK → Prop} {args : List Arg} (h : OpOkF K g m r) {σ : L2.St} {H : Hp} {Q : VK} (t : tEv K mg W m (fApF g args) σ H Q) : tArgs K mg W args σ H fun vs H1 => r vs H1 Q := by
  obtain ⟨lab, sa, k, I, f, t⟩ := t
  refine args_ok args I f ?_
  simp only [fApF] at t
  cases he : evArgs args sa with
  | ok xs s =>
    rw [he] at t
    simp only at t
    intro vs H' lab' I' st f' rel
    cases hf : inrAll xs with
    | none => rw [hf] at t; exact t.elim
    | some ds =>
      rw [hf] at t
      simp only at t
      cases hg : g ds with
      | none => rw [hg] at t; exact t.elim
      | some d =>
        rw [hg] at t
        refine h H' lab' k ds vs d Q I'.wf f' (rel.frz hf) hg fun v H2 res => ?_
        obtain ⟨lab2, gr, w2, f2, hold⟩ := res
        exact t v H2 lab2 (I'.grow gr w2) (st.trans gr.step) f2 hold
  | ex x s => rw [he] at t; exact t
  | no => rw [he] at t; exact t
end
theorem line1000 {n : Nat} (h : n ≤ 1000) : n ≤ sizeLine := by
  rw [sizeLine_eq]
  omega
def gTupD (ds : List D) : Option D := if ds.length ≤ 1000 then some (.tup ds) else none
def gLstD (ds : List D) : Option D := if ds.length ≤ 1000 then some (.lst ds) else none
section
variable {X : Cx} {W : WX}
theorem me_tup {es : List Expr} {as : List Arg} {x1 pos} (h : MAs X W es as) : ME X W (.Tuple es x1 pos) false (fApF gTupD as) := pe_mono (pe_tup h) fun σ H Q t =>
  apF_ok (r := fun vs H Q => vs.length ≤ sizeLine ∧ ∀ p, H p = none → Q (.ref p) (upd H p (.tup vs))) (fun H lab k ds vs d Q w f hd hg q => by
    simp only [gTupD] at hg
    split at hg
    · rename_i hl
      cases hg
      exact ⟨by rw [← hd.length]; exact line1000 hl, fun p hp => q _ _ (res_tup w f hp hd)⟩
    · cases hg) t
theorem me_lst {es : List Expr} {as : List Arg} {pos} (h : MAs X W es as) : ME X W (.List es pos) true (fApF gLstD as) := pe_mono (pe_lst h) fun σ H Q t =>
  apF_ok (r := fun vs H Q => vs.length ≤ sizeLine ∧ ∀ p, H p = none → Q (.ref p) (upd H p (.lst vs))) (fun H lab k ds vs d Q w f hd hg q => by
    simp only [gLstD] at hg
    split at hg
    · rename_i hl
      cases hg
      exact ⟨by rw [← hd.length]; exact line1000 hl, fun p hp => q _ _ (res_obj w f hp (.lst ds vs) hd)⟩
    · cases hg) t
end
/-! ### tests -/
/-- a value's truth -/
def D.truth : D → Option Bool
  | .non => some false
  | .bl b => some b
  | .int i => some (i != 0)
  | .lst xs => some (!xs.isEmpty)
  | .tup xs => some (!xs.isEmpty)
  | .ro xs => some (!xs.isEmpty)
  | _ => none
def fTru (a : Arg) : AT := fun sa => match evArgs [a] sa with
  | .ok xs s => (match fetchAll s xs with
    | some [d] => (match d.truth with
      | some b => .ok b s
      | none => .no)
    | _ => .no)
  | .ex x s => .ex x s
  | .no => .no
/-- of a value that is a bool -/
def fTb (f : AE) : AT := fun sa => match f sa with
  | .ok (.bl b) s => .ok b s
  | .ex x s => .ex x s
  | _ => .no
def fNotT (f : AT) : AT := fun sa => match f sa with
  | .ok b s => .ok (!b) s
  | .ex x s => .ex x s
  | .no => .no
def fAndT (f g : AT) : AT := fun sa => match f sa with
  | .ok true s => g s
  | .ok false s => .ok false s
  | .ex x s => .ex x s
  | .no => .no
def fOrT (f g : AT) : AT := fun sa => match f sa with
  | .ok false s => g s
  | .ok true s => .ok true s
  | .ex x s => .ex x s
  | .no => .no
section
variable {K : PySem.W.Frag} {mg : Str → Option Value} {W : WX}
theorem tru_isEmpty {H : Hp} {lab : Labs} {ds : List D} {vs : List V} (h : FrzL K H lab ds vs) : (!vs.isEmpty) = !ds.isEmpty := by
  cases h <;> rfl
theorem truth_ok {H : Hp} {lab : Labs} {d : D} {v : V} {b : Bool} (r : Rdv K H lab d v) (h : d.truth = some b) : TruV K v H b := by
  have own : ∀ (a : Addr) (o : HO) (ds : List D) (vs : List V), H a = some o → Sh o d ds vs → FrzL K H lab ds vs → TruV K (.ref a) H b := fun a o ds vs ha sh t => by
    cases sh with
    | lst =>
      simp [D.truth] at h
      exact .inl ⟨vs, .inl (.inl ha), by rw [tru_isEmpty t, h, Bool.not_not]⟩
    | dK => simp [D.truth] at h
    | dT => simp [D.truth] at h
    | set => simp [D.truth] at h
  rcases r with r | ⟨l, a, o, ds, vs, rfl, ha, _, sh, t⟩
  · cases r with
    | non => simp [D.truth] at h; exact h
    | bl c => simp [D.truth] at h; exact h.symm
    | int i => simp [D.truth] at h; exact h.symm
    | str s => simp [D.truth] at h
    | ty n => simp [D.truth] at h
    | tup hs t =>
      simp [D.truth] at h
      exact .inr (.inl ⟨_, .inl (.inl hs), by rw [tru_isEmpty t, h, Bool.not_not]⟩)
    | ro hs t =>
      simp [D.truth] at h
      exact .inl ⟨_, hs.sql, by rw [tru_isEmpty t, h, Bool.not_not]⟩
    | obj ha hl sh t => exact own _ _ _ _ ha sh t
  · exact own _ _ _ _ ha sh t
end
section
variable {X : Cx} {W : WX}
/-- an expression's value as a test -/
theorem mt_tru {e : Expr} {a : Arg} (h : MA X W e a) (he : ∀ whole, isTrue e X.env whole = (do let v ← whole; standAt e.pos; holding [v] (truthy v)) := by intro _; rfl) : MT X W e (fTru a) := pt_mono (pt_truth h he) fun σ H Q t => by
  obtain ⟨lab, sa, k, I, f, t⟩ := t
  have key : tArgs X.K X.mg W [a] σ H fun vs H1 => ∃ x, vs = [x] ∧ ∃ k, TruV X.K x H1 k ∧ Q k H1 := by
    refine args_ok [a] I f ?_
    simp only [fTru] at t
    cases he : evArgs [a] sa with
    | ok xs s =>
      rw [he] at t
      simp only at t
      intro vs H' lab' I' st f' rel
      cases hf : fetchAll s xs with
      | none => rw [hf] at t; exact t.elim
      | some ds =>
        rw [hf] at t
        have rd := rel.rd I' hf
        match ds, rd, t with
        | [], _, t => exact t.elim
        | _ :: _ :: _, _, t => exact t.elim
        | [d], .cons r .nil, t =>
          simp only at t
          cases hb : d.truth with
          | none => rw [hb] at t; exact t.elim
          | some b =>
            rw [hb] at t
            exact ⟨_, rfl, b, truth_ok r hb, t H' lab' I' st f'⟩
    | ex x s => rw [he] at t; exact t
    | no => rw [he] at t; exact t
  have key' : tArg X.K X.mg W a σ H fun x H1 => tNil σ H1 fun vs H2 => ∃ y, x :: vs = [y] ∧ ∃ k, TruV X.K y H2 k ∧ Q k H2 := key
  refine (h_mono a key')
where
  h_mono (a : Arg) {σ : L2.St} {H : Hp} {Q : Bool → Hp → Prop} (k : tArg X.K X.mg W a σ H fun x H1 => tNil σ H1 fun vs H2 => ∃ y, x :: vs = [y] ∧ ∃ k, TruV X.K y H2 k ∧ Q k H2) : tArg X.K X.mg W a σ H fun x H' => ∃ k, TruV X.K x H' k ∧ Q k H' := by
    have e : (fun (x : V) (H1 : Hp) => tNil σ H1 fun vs H2 => ∃ y, x :: vs = [y] ∧ ∃ k, TruV X.K y H2 k ∧ Q k H2) = fun x H' => ∃ k, TruV X.K x H' k ∧ Q k H' := by
      funext x H1
      refine propext ⟨fun ⟨y, e, h⟩ => ?_, fun h => ⟨x, rfl, h⟩⟩
      cases e
      exact h
    rw [← e]
    exact k
theorem tTv_of {f : AE} {n : Bool} {σ : L2.St} {H : Hp} {Q : Bool → Hp → Prop} (t : tTv X.K X.mg W (fTb f) σ H Q) : tB (tEv X.K X.mg W n f) σ H Q := by
  obtain ⟨lab, sa, k, I, fr, t⟩ := t
  refine ⟨lab, sa, k, I, fr, ?_⟩
  simp only [fTb] at t
  cases hf : f sa with
  | ok d s =>
    rw [hf] at t
    intro v H' lab' I' st f' r
    cases d <;> first | exact t.elim | skip
    rename_i b
    have hv : v = .bl b := r.rdv.bl_inv
    exact ⟨_, hv, t H' (swp lab' (.tmp k) .frz) (I'.swap (fun e => nomatch e) (fun e => nomatch e) (fun e => nomatch e) (fun _ e => nomatch e)) (st.swpTmp fr) f'.frzTmp⟩
  | ex x s => rw [hf] at t; exact t
  | no => rw [hf] at t; exact t
/-- a comparison and the like as a test -/
theorem mt_val {e : Expr} {n : Bool} {f : AE} (h : ME X W e n f) (he : ∀ whole, isTrue e X.env whole = (do let v ← whole; standAt e.pos; holding [v] (truthy v)) := by intro _; rfl) : MT X W e (fTb f) := pt_mono (pt_val h he) fun σ H Q t => tTv_of t
theorem mt_not {e : Expr} {f : AT} {pos} (h : MT X W e f) : MT X W (.UnaryOp .Not e pos) (fNotT f) := pt_mono (pt_not h) fun σ H Q t => by
  obtain ⟨lab, sa, k, I, fr, t⟩ := t
  refine ⟨lab, sa, k, I, fr, ?_⟩
  simp only [fNotT] at t
  cases hf : f sa with
  | ok b s => rw [hf] at t; exact t
  | ex x s => rw [hf] at t; exact t
  | no => rw [hf] at t; exact t
/-- two tests in a row -/
theorem tTv_two {f : AT} {g : Bool → Option AT} {m : AT} {u : L2.St → Hp → (Bool → Hp → Prop) → Bool → Prop} (hm : ∀ sa, m sa = match f sa with
    | .ok b s => (match g b with
      | some h => h s
      | none => .ok b s)
    | .ex x s => .ex x s
    | .no => .no) {σ : L2.St} {H : Hp} {Q : Bool → Hp → Prop} (hu : ∀ b H', (match g b with
      | some h => tTv X.K X.mg W h σ H' Q
      | none => Q b H') → u σ H' Q b) (t : tTv X.K X.mg W m σ H Q) : tTv X.K X.mg W f σ H fun b H' => u σ H' Q b := by
  obtain ⟨lab, sa, k, I, fr, t⟩ := t
  refine ⟨lab, sa, k, I, fr, ?_⟩
  rw [hm] at t
  cases hf : f sa with
  | ok b s =>
    rw [hf] at t
    dsimp only at t
    intro H' lab' I' st f'
    refine hu b H' ?_
    cases hg : g b with
    | none => rw [hg] at t; exact t H' lab' I' st f'
    | some h =>
      rw [hg] at t
      refine ⟨lab', s, k, I', f', ?_⟩
      simp only at t
      cases hh : h s with
      | ok c s2 => rw [hh] at t; exact fun H2 lab2 I2 st2 f2 => t H2 lab2 I2 (st.trans st2) f2
      | ex x s2 => rw [hh] at t; exact fun H2 lab2 cls dx I2 st2 f2 xo => t H2 lab2 cls dx I2 (st.trans st2) f2 xo
      | no => rw [hh] at t; exact t
  | ex x s => rw [hf] at t; exact t
  | no => rw [hf] at t; exact t
abbrev MW (X : Cx) (W : WX) (e : Expr) (f : AT) : Prop := PW X e (tTv X.K X.mg W f)
theorem pw_mono {e : Expr} {t t' : TT} (h : PW X e t) (m : ∀ σ H Q, t' σ H Q → t σ H Q) : PW X e t' := ⟨fun w pins s σ H Q I q => h.run w pins s σ H Q I (m σ H Q q)⟩
theorem mw_and1 {a : Expr} {f : AT} {pos} (h : MT X W a f) : MW X W (.BoolOp .And [a] pos) f := pw_and1 h
theorem mw_or1 {a : Expr} {f : AT} {pos} (h : MT X W a f) : MW X W (.BoolOp .Or [a] pos) f := pw_or1 h
theorem mw_and {a b : Expr} {rest : List Expr} {f g : AT} {pos} (ha : MT X W a f) (hb : MW X W (.BoolOp .And (b :: rest) pos) g) : MW X W (.BoolOp .And (a :: b :: rest) pos) (fAndT f g) := pw_mono (pw_and ha hb) fun σ H Q t =>
  tTv_two (g := fun b => if b then some g else none) (u := fun σ H' Q c => if c = true then tTv X.K X.mg W g σ H' Q else Q false H') (fun sa => by
    simp only [fAndT]
    cases f sa with
    | ok b s => cases b <;> rfl
    | ex x s => rfl
    | no => rfl) (fun b H' h => by cases b <;> exact h) t
theorem mw_or {a b : Expr} {rest : List Expr} {f g : AT} {pos} (ha : MT X W a f) (hb : MW X W (.BoolOp .Or (b :: rest) pos) g) : MW X W (.BoolOp .Or (a :: b :: rest) pos) (fOrT f g) := pw_mono (pw_or ha hb) fun σ H Q t =>
  tTv_two (g := fun b => if b then none else some g) (u := fun σ H' Q c => if c = true then Q true H' else tTv X.K X.mg W g σ H' Q) (fun sa => by
    simp only [fOrT]
    cases f sa with
    | ok b s => cases b <;> rfl
    | ex x s => rfl
    | no => rfl) (fun b H' h => by cases b <;> exact h) t
theorem mt_w {e : Expr} {f : AT} (h : MW X W e f) : MT X W e f := h.pt
end
/-! ### choices -/
def fIfE (c : AT) (f g : AE) : AE := fun sa => match c sa with
  | .ok true s => f s
  | .ok false s => g s
  | .ex x s => .ex x s
  | .no => .no
/-- a and b, a or b, not a as values: bools -/
def fBl (c : AT) : AE := fun sa => match c sa with
  | .ok b s => .ok (.bl b) s
  | .ex x s => .ex x s
  | .no => .no
section
variable {X : Cx} {W : WX}
theorem tEv_stp {f : AE} {n : Bool} {lab lab' : Labs} {sa : AS} {k : Nat} {σ : L2.St} {H H' : Hp} {Q : VK} (I' : FI X.K H' lab' sa σ) (f' : Free k lab') (st : Step lab H lab' H')
    (t : match f sa with
      | .ok d s => ∀ v H2 lab2, FI X.K H2 lab2 s σ → Step lab H lab2 H2 → Free (k + 1) lab2 → Hold X.K H2 lab2 (.tmp k) n.toNat d v → Q v H2
      | .ex x s => ∀ H2 lab2 cls dx, FI X.K H2 lab2 s σ → Step lab H lab2 H2 → Free k lab2 → XOk X.mg H2 x cls dx → W cls dx σ H2
      | .no => False) : tEv X.K X.mg W n f σ H' Q := by
  refine ⟨lab', sa, k, I', f', ?_⟩
  cases hf : f sa with
  | ok d s => rw [hf] at t; exact fun v H2 lab2 I2 st2 f2 r => t v H2 lab2 I2 (st.trans st2) f2 r
  | ex x s => rw [hf] at t; exact fun H2 lab2 cls dx I2 st2 f2 xo => t H2 lab2 cls dx I2 (st.trans st2) f2 xo
  | no => rw [hf] at t; exact t
theorem me_if {c a b : Expr} {n : Bool} {fc : AT} {f g : AE} {pos} (hc : MT X W c fc) (ha : ME X W a n f) (hb : ME X W b n g) : ME X W (.IfExp c a b pos) n (fIfE fc f g) := pe_mono (pe_ifExp hc ha hb) fun σ H Q t => by
  obtain ⟨lab, sa, k, I, fr, t⟩ := t
  refine ⟨lab, sa, k, I, fr, ?_⟩
  simp only [fIfE] at t
  cases hf : fc sa with
  | ok b s =>
    rw [hf] at t
    cases b with
    | true => exact fun H' lab' I' st f' => tEv_stp I' f' st t
    | false => exact fun H' lab' I' st f' => tEv_stp I' f' st t
  | ex x s => rw [hf] at t; exact t
  | no => rw [hf] at t; exact t
end
end PV
/-! PV 4: statements -/
namespace PV
open PySem PySem.Spec PyProof.Rows L2
inductive Fl where
  | nx | rt (d : D) | bk | ct
abbrev ASt := AS → R AS Fl
/-- the slots that may not be assigned hold what they held -/
def AsgOk (A : Nat → Bool) (σ σ' : L2.St) : Prop := ∀ i, A i = false → σ'[i]? = σ[i]?
theorem AsgOk.refl (A : Nat → Bool) (σ : L2.St) : AsgOk A σ σ := fun _ _ => rfl
theorem AsgOk.trans {A : Nat → Bool} {σ σ1 σ2 : L2.St} (a : AsgOk A σ σ1) (b : AsgOk A σ1 σ2) : AsgOk A σ σ2 := fun i h => (b i h).trans (a i h)
theorem AsgOk.set {A : Nat → Bool} {σ : L2.St} {i : Nat} {o : Option V} (h : A i = true) : AsgOk A σ (σ.set i o) := fun j hj => by
  rw [List.getElem?_set_ne]
  intro e
  rw [e, hj] at h
  cases h
section
variable (K : PySem.W.Frag) (mg : Str → Option Value) (W : WX) (rd : Bool) (A : Nat → Bool)
def svPost (D : Ends) (lab : Labs) (H : Hp) (σ : L2.St) : R AS Fl → Prop
  | .ok .nx s => ∀ σ' H' lab', FI K H' lab' s σ' → Step lab H lab' H' → AsgOk A σ σ' → Free 0 lab' → D.nx σ' H'
  | .ok .bk s => ∀ σ' H' lab', FI K H' lab' s σ' → Step lab H lab' H' → AsgOk A σ σ' → Free 0 lab' → D.bk σ' H'
  | .ok .ct s => ∀ σ' H' lab', FI K H' lab' s σ' → Step lab H lab' H' → AsgOk A σ σ' → Free 0 lab' → D.ct σ' H'
  | .ok (.rt d) s => ∀ σ' H' lab' v, FI K H' lab' s σ' → Step lab H lab' H' → AsgOk A σ σ' → Free 1 lab' → Hold K H' lab' (.tmp 0) rd.toNat d v → D.rt v H'
  | .ex x s => ∀ σ' H' lab' cls dx, FI K H' lab' s σ' → Step lab H lab' H' → AsgOk A σ σ' → Free 0 lab' → XOk mg H' x cls dx → W cls dx σ' H'
  | .no => False
def tSv (f : ASt) : TS := fun D σ H => ∃ lab sa, FI K H lab sa σ ∧ Free 0 lab ∧ svPost K mg W rd A D lab H σ (f sa)
end
section
variable {K : PySem.W.Frag} {mg : Str → Option Value} {W : WX} {rd : Bool} {A : Nat → Bool}
theorem svPost.from {D : Ends} {lab lab1 : Labs} {H H1 : Hp} {σ σ1 : L2.St} {r : R AS Fl} (st : Step lab H lab1 H1) (as : AsgOk A σ σ1) (h : svPost K mg W rd A D lab H σ r) : svPost K mg W rd A D lab1 H1 σ1 r := by
  match r, h with
  | .ok .nx s, h => exact fun σ' H' lab' I st' as' f => h σ' H' lab' I (st.trans st') (as.trans as') f
  | .ok .bk s, h => exact fun σ' H' lab' I st' as' f => h σ' H' lab' I (st.trans st') (as.trans as') f
  | .ok .ct s, h => exact fun σ' H' lab' I st' as' f => h σ' H' lab' I (st.trans st') (as.trans as') f
  | .ok (.rt d) s, h => exact fun σ' H' lab' v I st' as' f r => h σ' H' lab' v I (st.trans st') (as.trans as') f r
  | .ex x s, h => exact fun σ' H' lab' cls dx I st' as' f xo => h σ' H' lab' cls dx I (st.trans st') (as.trans as') f xo
/-- other ends, where they say no less -/
theorem svPost.ends {D D' : Ends} {lab : Labs} {H : Hp} {σ : L2.St} {r : R AS Fl} (hn : ∀ s, r = .ok .nx s → ∀ σ' H' lab', FI K H' lab' s σ' → Step lab H lab' H' → AsgOk A σ σ' → Free 0 lab' → D.nx σ' H' → D'.nx σ' H') (hb : ∀ s, r = .ok .bk s → ∀ σ' H' lab', FI K H' lab' s σ' → Step lab H lab' H' → AsgOk A σ σ' → Free 0 lab' → D.bk σ' H' → D'.bk σ' H')
    (hc : ∀ s, r = .ok .ct s → ∀ σ' H' lab', FI K H' lab' s σ' → Step lab H lab' H' → AsgOk A σ σ' → Free 0 lab' → D.ct σ' H' → D'.ct σ' H') (hr : ∀ v H', D.rt v H' → D'.rt v H') (h : svPost K mg W rd A D lab H σ r) : svPost K mg W rd A D' lab H σ r := by
  match r, hn, hb, hc, h with
  | .ok .nx s, hn, _, _, h => exact fun σ' H' lab' I st' as' f => hn s rfl σ' H' lab' I st' as' f (h σ' H' lab' I st' as' f)
  | .ok .bk s, _, hb, _, h => exact fun σ' H' lab' I st' as' f => hb s rfl σ' H' lab' I st' as' f (h σ' H' lab' I st' as' f)
  | .ok .ct s, _, _, hc, h => exact fun σ' H' lab' I st' as' f => hc s rfl σ' H' lab' I st' as' f (h σ' H' lab' I st' as' f)
  | .ok (.rt d) s, _, _, _, h => exact fun σ' H' lab' v I st' as' f r => hr v H' (h σ' H' lab' v I st' as' f r)
  | .ex x s, _, _, _, h => exact h
end
abbrev MS (X : Cx) (W : WX) (rd : Bool) (A : Nat → Bool) (st : Stmt) (f : ASt) : Prop := PS X st (tSv X.K X.mg W rd A f)
abbrev MSs (X : Cx) (W : WX) (rd : Bool) (A : Nat → Bool) (sts : List Stmt) (f : ASt) : Prop := PSs X sts (tSv X.K X.mg W rd A f)
def fNext : ASt := fun s => .ok .nx s
def fSeq (f g : ASt) : ASt := fun s => match f s with
  | .ok .nx s1 => g s1
  | r => r
/-- what is kept in a slot of a value of kind n -/
def normK (d : D) (n : Bool) : Nat := if d.mut then n.toNat else 0
def fSet (i : Nat) (n : Bool) (f : AE) : ASt := fun s => match f s with
  | .ok d s1 => if i < s1.length then .ok .nx (s1.set i (some (d, normK d n))) else .no
  | .ex x s1 => .ex x s1
  | .no => .no
def fExpr (f : AE) : ASt := fun s => match f s with
  | .ok _ s1 => .ok .nx s1
  | .ex x s1 => .ex x s1
  | .no => .no
def fRet (f : AE) : ASt := fun s => match f s with
  | .ok d s1 => .ok (.rt d) s1
  | .ex x s1 => .ex x s1
  | .no => .no
def fIfS (c : AT) (f g : ASt) : ASt := fun s => match c s with
  | .ok true s1 => f s1
  | .ok false s1 => g s1
  | .ex x s1 => .ex x s1
  | .no => .no
def fWhile : Nat → AT → ASt → ASt
  | 0, _, _ => fun _ => .no
  | N + 1, c, b => fun s => match c s with
    | .ok false s1 => .ok .nx s1
    | .ok true s1 => (match b s1 with
      | .ok .nx s2 => fWhile N c b s2
      | .ok .ct s2 => fWhile N c b s2
      | .ok .bk s2 => .ok .nx s2
      | r => r)
    | .ex x s1 => .ex x s1
    | .no => .no
theorem Hold.norm {K : PySem.W.Frag} {H : Hp} {lab : Labs} {l : Lab} {n : Bool} {d : D} {v : V} (h : Hold K H lab l n.toNat d v) : Hold K H lab l (normK d n) d v := by
  unfold normK
  split
  · exact h
  · rename_i hm
    cases n with
    | false => exact h
    | true =>
      rcases h with ⟨_, h⟩ | ⟨a, o, ds, vs, _, _, _, sh, _⟩
      · exact h
      · exact absurd sh.dmut hm
section
variable {X : Cx} {W : WX} {rd : Bool} {A : Nat → Bool}
theorem mss_nil : MSs X W rd A [] fNext := pss_mono pss_nil fun D σ H t => by
  obtain ⟨lab, sa, I, f, t⟩ := t
  exact t σ H lab I (Step.refl _ _) (AsgOk.refl _ _) f
theorem mss_cons {st : Stmt} {rest : List Stmt} {f g : ASt} (h : MS X W rd A st f) (t : MSs X W rd A rest g) : MSs X W rd A (st :: rest) (fSeq f g) := pss_mono (pss_cons h t) fun D σ H t => by
  obtain ⟨lab, sa, I, fr, t⟩ := t
  refine ⟨lab, sa, I, fr, ?_⟩
  simp only [fSeq] at t
  cases hf : f sa with
  | ok fl s =>
    rw [hf] at t
    cases fl with
    | nx => exact fun σ' H' lab' I' st as f' => ⟨lab', s, I', f', t.from st as⟩
    | rt d => exact t
    | bk => exact t
    | ct => exact t
  | ex x s => rw [hf] at t; exact t
  | no => rw [hf] at t; exact t
theorem mss_one {st : Stmt} {f : ASt} (h : MS X W rd A st f) : MSs X W rd A [st] f := pss_one h
/-- an expression's reading with statements' ends -/
theorem ev_sv {f : AE} {n : Bool} {lab : Labs} {sa : AS} {σ : L2.St} {H : Hp} {Q : VK} (I : FI X.K H lab sa σ) (fr : Free 0 lab) (h : match f sa with
      | .ok d s => ∀ v H' lab', FI X.K H' lab' s σ → Step lab H lab' H' → Free 1 lab' → Hold X.K H' lab' (.tmp 0) n.toNat d v → Q v H'
      | .ex x s => ∀ σ' H' lab' cls dx, FI X.K H' lab' s σ' → Step lab H lab' H' → AsgOk A σ σ' → Free 0 lab' → XOk X.mg H' x cls dx → W cls dx σ' H'
      | .no => False) : tEv X.K X.mg W n f σ H Q := by
  refine ⟨lab, sa, 0, I, fr, ?_⟩
  cases hf : f sa with
  | ok d s => rw [hf] at h; exact h
  | ex x s => rw [hf] at h; exact fun H' lab' cls dx I' st f' xo => h σ H' lab' cls dx I' st (AsgOk.refl _ _) f' xo
  | no => rw [hf] at h; exact h
theorem step_put {lab lab' : Labs} {H H' : Hp} {i k : Nat} (f : Free k lab) (s : Step lab H lab' H') : Step lab H (swp (swp lab' (.slot i) .frz) (.tmp k) (.slot i)) H' := fun a o h n => by
  obtain ⟨h1, l1⟩ := s a o h n
  refine ⟨h1, ?_⟩
  have e : swp lab' (.slot i) .frz a = lab' a := swp_ne (by rw [l1]; exact n i)
  rw [swp_ne (by rw [e, l1]; exact f k (Nat.le_refl _) a), e, l1]
theorem free_put {lab : Labs} {i : Nat} (f : Free 1 lab) : Free 0 (swp (swp lab (.slot i) .frz) (.tmp 0) (.slot i)) :=
  Free.swap (k := 1) (f.swap (fun _ _ e => nomatch e) (fun _ _ _ => by omega)) (fun _ _ e => nomatch e) (fun j h1 h2 => by rw [show j = 0 by omega])
theorem ms_set {i : Nat} {x : Str} {e : Expr} {n : Bool} {f : AE} {pos' pos : Pos} (hN : X.N.Nodup) (hi : X.N[i]? = some x) (hx : Loc X.env.scope x) (hA : A i = true) (he : ME X W e n f) (hs : swapsWith e (some (.Name x pos')) pos.line X.env = pure false := by rfl) (hf : X.fn x = true ∨ X.env.scope.names.lookup x = some .local := by first | exact .inl rfl | exact .inr rfl | assumption) :
    MS X W rd A (.Assign [.Name x pos'] e pos) (fSet i n f) := ps_mono (ps_set hN hi hx he hs hf) fun D σ H t => by
  obtain ⟨lab, sa, I, fr, t⟩ := t
  refine ev_sv (A := A) I fr ?_
  simp only [fSet] at t
  cases hf : f sa with
  | ok d s =>
    rw [hf] at t
    dsimp only at t
    intro v H' lab' I' st f' r
    by_cases hi : i < s.length
    · rw [if_pos hi] at t
      exact t (σ.set i (some v)) H' _ (I'.put hi r.norm) (step_put fr st) (AsgOk.set hA) (free_put f')
    · rw [if_neg hi] at t
      exact t.elim
  | ex x s => rw [hf] at t; exact t
  | no => rw [hf] at t; exact t
theorem ms_expr {e : Expr} {n : Bool} {f : AE} {pos : Pos} (he : ME X W e n f) (hs : swapsWith e none pos.line X.env = pure false := by rfl) : MS X W rd A (.Expr e pos) (fExpr f) := ps_mono (ps_expr he hs) fun D σ H t => by
  obtain ⟨lab, sa, I, fr, t⟩ := t
  refine ev_sv (A := A) I fr ?_
  simp only [fExpr] at t
  cases hf : f sa with
  | ok d s =>
    rw [hf] at t
    exact fun v H' lab' I' st f' r => t σ H' (swp lab' (.tmp 0) .frz) (I'.swap (fun e => nomatch e) (fun e => nomatch e) (fun e => nomatch e) (fun _ e => nomatch e)) (st.swpTmp fr) (AsgOk.refl _ _) f'.frzTmp
  | ex x s => rw [hf] at t; exact t
  | no => rw [hf] at t; exact t
theorem ms_doc {x j pos pos'} : MS X W rd A (.Expr (.Constant (.str x) j pos) pos') fNext := ps_mono ps_doc fun D σ H t => by
  obtain ⟨lab, sa, I, f, t⟩ := t
  exact t σ H lab I (Step.refl _ _) (AsgOk.refl _ _) f
theorem ms_pass {pos} : MS X W rd A (.Pass pos) fNext := ps_mono ps_pass fun D σ H t => by
  obtain ⟨lab, sa, I, f, t⟩ := t
  exact t σ H lab I (Step.refl _ _) (AsgOk.refl _ _) f
def fBreak : ASt := fun s => .ok .bk s
def fCont : ASt := fun s => .ok .ct s
theorem ms_break {pos} : MS X W rd A (.Break pos) fBreak := ps_mono ps_break fun D σ H t => by
  obtain ⟨lab, sa, I, f, t⟩ := t
  exact t σ H lab I (Step.refl _ _) (AsgOk.refl _ _) f
theorem ms_cont {pos} : MS X W rd A (.Continue pos) fCont := ps_mono ps_continue fun D σ H t => by
  obtain ⟨lab, sa, I, f, t⟩ := t
  exact t σ H lab I (Step.refl _ _) (AsgOk.refl _ _) f
theorem ms_ret {e : Expr} {f : AE} {pos : Pos} (he : ME X W e rd f) : MS X W rd A (.Return (some e) pos) (fRet f) := ps_mono (ps_ret he) fun D σ H t => by
  obtain ⟨lab, sa, I, fr, t⟩ := t
  refine ev_sv (A := A) I fr ?_
  simp only [fRet] at t
  cases hf : f sa with
  | ok d s =>
    rw [hf] at t
    exact fun v H' lab' I' st f' r => t σ H' lab' v I' st (AsgOk.refl _ _) f' r
  | ex x s => rw [hf] at t; exact t
  | no => rw [hf] at t; exact t
/-- code that is never come to -/
def fNever : ASt := fun _ => .no
theorem ms_never {st : Stmt} : MS X W rd A st fNever := ps_mono ps_never fun D σ H t => by
  obtain ⟨lab, sa, I, f, t⟩ := t
  exact t.elim
theorem tt_sv {f : AT} {lab : Labs} {sa : AS} {σ : L2.St} {H : Hp} {Q : Bool → Hp → Prop} (I : FI X.K H lab sa σ) (fr : Free 0 lab) (h : match f sa with
      | .ok b s => ∀ H' lab', FI X.K H' lab' s σ → Step lab H lab' H' → Free 0 lab' → Q b H'
      | .ex x s => ∀ σ' H' lab' cls dx, FI X.K H' lab' s σ' → Step lab H lab' H' → AsgOk A σ σ' → Free 0 lab' → XOk X.mg H' x cls dx → W cls dx σ' H'
      | .no => False) : tTv X.K X.mg W f σ H Q := by
  refine ⟨lab, sa, 0, I, fr, ?_⟩
  cases hf : f sa with
  | ok d s => rw [hf] at h; exact h
  | ex x s => rw [hf] at h; exact fun H' lab' cls dx I' st f' xo => h σ H' lab' cls dx I' st (AsgOk.refl _ _) f' xo
  | no => rw [hf] at h; exact h
theorem ms_if {c : Expr} {a b : List Stmt} {fc : AT} {f g : ASt} {pos : Pos} (hc : MT X W c fc) (ha : MSs X W rd A a f) (hb : MSs X W rd A b g) : MS X W rd A (.If c a b pos) (fIfS fc f g) := ps_mono (ps_if hc ha hb) fun D σ H t => by
  obtain ⟨lab, sa, I, fr, t⟩ := t
  refine tt_sv (A := A) I fr ?_
  simp only [fIfS] at t
  cases hf : fc sa with
  | ok b s =>
    rw [hf] at t
    cases b with
    | true => exact fun H' lab' I' st f' => ⟨lab', s, I', f', t.from st (AsgOk.refl _ _)⟩
    | false => exact fun H' lab' I' st f' => ⟨lab', s, I', f', t.from st (AsgOk.refl _ _)⟩
  | ex x s => rw [hf] at t; exact t
  | no => rw [hf] at t; exact t
theorem ms_while {c : Expr} {body : List Stmt} {fc : AT} {f : ASt} {pos : Pos} (N : Nat) (hp : PassesOwn (model X.prog X.w) X.A X.env X.xe) (hc : MT X W c fc) (hb : MSs X W rd A body f) : MS X W rd A (.While c body [] pos) (fWhile N fc f) := ps_mono (ps_while hp hc hb) fun D σ H t => by
  obtain ⟨lab, sa, I, fr, t⟩ := t
  refine ⟨fun m σ' H' => ∃ lab' s, FI X.K H' lab' s σ' ∧ Free 0 lab' ∧ svPost X.K X.mg W rd A D lab' H' σ' (fWhile m fc f s), ⟨N, lab, sa, I, fr, t⟩, ?_⟩
  rintro m σ1 H1 ⟨lab1, s1, I1, f1, t1⟩
  match m, t1 with
  | 0, t1 => exact t1.elim
  | m + 1, t1 =>
    refine tt_sv (A := A) I1 f1 ?_
    simp only [fWhile] at t1
    cases hf : fc s1 with
    | ok b s2 =>
      rw [hf] at t1
      try dsimp only at t1
      intro H2 lab2 I2 st2 f2
      cases b with
      | false =>
        rw [if_neg (by decide)]
        exact t1 σ1 H2 lab2 I2 st2 (AsgOk.refl _ _) f2
      | true =>
        rw [if_pos rfl]
        dsimp only at t1
        refine ⟨fun σ' H' => ∃ lab' s, FI X.K H' lab' s σ' ∧ Free 0 lab' ∧ svPost X.K X.mg W rd A D lab' H' σ' (fWhile m fc f s), fun σ' H' h => ⟨m, Nat.lt_succ_self _, h⟩, lab2, s2, I2, f2, ?_⟩
        cases hg : f s2 with
        | ok fl s3 =>
          rw [hg] at t1
          cases fl with
          | nx => exact fun σ' H' lab' I' st as f' => ⟨lab', s3, I', f', t1.from (st2.trans st) as⟩
          | ct => exact fun σ' H' lab' I' st as f' => ⟨lab', s3, I', f', t1.from (st2.trans st) as⟩
          | bk => exact fun σ' H' lab' I' st as f' => t1 σ' H' lab' I' (st2.trans st) as f'
          | rt d => exact fun σ' H' lab' v I' st as f' r => t1 σ' H' lab' v I' (st2.trans st) as f' r
        | ex x s3 => rw [hg] at t1; exact fun σ' H' lab' cls dx I' st as f' xo => t1 σ' H' lab' cls dx I' (st2.trans st) as f' xo
        | no => rw [hg] at t1; exact t1
    | ex x s2 => rw [hf] at t1; exact t1
    | no => rw [hf] at t1; exact t1
end
end PV
/-! PV 5: several values at once; targets; for; list comprehensions -/
namespace PV
open PySem PySem.Spec PyProof.Rows L2
/-! ### several values, each with its kind -/
def evMany : List (Bool × AE) → AS → R AS (List D)
  | [], s => .ok [] s
  | (_, f) :: r, s => match f s with
    | .ok d s1 => (match evMany r s1 with
      | .ok ds s2 => .ok (d :: ds) s2
      | .ex x s2 => .ex x s2
      | .no => .no)
    | .ex x s1 => .ex x s1
    | .no => .no
def frzTmps (lab : Labs) : Labs := fun a => match lab a with
  | .tmp _ => .frz
  | l => l
theorem frzTmps_ne {lab : Labs} {a : Addr} (h : ∀ k, lab a ≠ .tmp k) : frzTmps lab a = lab a := by
  unfold frzTmps
  split
  · rename_i k e; exact absurd e (h k)
  · rfl
theorem frzTmps_tmp {lab : Labs} {a : Addr} {k : Nat} (h : lab a = .tmp k) : frzTmps lab a = .frz := by
  unfold frzTmps
  rw [h]
theorem FI.frzTmps {K : PySem.W.Frag} {H : Hp} {lab : Labs} {sa : AS} {σ : L2.St} (I : FI K H lab sa σ) : FI K H (frzTmps lab) sa σ :=
  ⟨fun a h => by
    refine I.wf a fun e => h ?_
    rw [frzTmps_ne (fun k => by rw [e]; exact fun q => nomatch q), e], I.len, fun i d n h => by
    obtain ⟨v, hv, r⟩ := I.sl i d n h
    exact ⟨v, hv, r.relab (fun a e => by rw [frzTmps_ne (fun k => by rw [e]; exact fun q => nomatch q), e]) (fun a e => by rw [frzTmps_ne (fun k => by rw [e]; exact fun q => nomatch q), e]) (fun a e => by rw [frzTmps_ne (fun k => by rw [e]; exact fun q => nomatch q), e])⟩⟩
theorem free_frzTmps (lab : Labs) : Free 0 (frzTmps lab) := fun i _ a e => by
  unfold frzTmps at e
  split at e
  · cases e
  · rename_i h
    exact h i e
theorem step_frzTmps {lab lab' : Labs} {H H' : Hp} (f : Free 0 lab) (s : Step lab H lab' H') : Step lab H (frzTmps lab') H' := fun a o h n => by
  obtain ⟨h1, l1⟩ := s a o h n
  refine ⟨h1, ?_⟩
  rw [frzTmps_ne (fun k => by rw [l1]; exact f k (Nat.zero_le _) a), l1]
/-- values in flight, each with a label of its own -/
inductive HoldL (K : PySem.W.Frag) (H : Hp) (lab : Labs) : Nat → List Bool → List D → List V → Prop where
  | nil {k : Nat} : HoldL K H lab k [] [] []
  | cons {k : Nat} {n : Bool} {ns : List Bool} {d : D} {v : V} {ds : List D} {vs : List V} : Hold K H lab (.tmp k) n.toNat d v → HoldL K H lab (k + 1) ns ds vs → HoldL K H lab k (n :: ns) (d :: ds) (v :: vs)
theorem HoldL.stp {K : PySem.W.Frag} {lab lab' : Labs} {H H' : Hp} (w : Wf lab H) (s : Step lab H lab' H') : ∀ {k : Nat} {ns : List Bool} {ds : List D} {vs : List V}, HoldL K H lab k ns ds vs → HoldL K H' lab' k ns ds vs
  | _, _, _, _, .nil => .nil
  | _, _, _, _, .cons h t => .cons (h.stp w s (fun _ e => nomatch e)) (t.stp w s)
theorem HoldL.relab {K : PySem.W.Frag} {lab lab' : Labs} {H : Hp} (s : ∀ a, lab a = .frz → lab' a = .frz) (l : ∀ a, lab a = .lent → lab' a = .lent) : ∀ {k : Nat} {ns : List Bool} {ds : List D} {vs : List V}, (∀ j, k ≤ j → ∀ a, lab a = .tmp j → lab' a = .tmp j) → HoldL K H lab k ns ds vs → HoldL K H lab' k ns ds vs
  | _, _, _, _, _, .nil => .nil
  | k, _, _, _, e, .cons h t => .cons (h.relab s l (e k (Nat.le_refl _))) (t.relab s l fun j hj => e j (by omega))
theorem HoldL.vlen {K : PySem.W.Frag} {lab : Labs} {H : Hp} : ∀ {k : Nat} {ns : List Bool} {ds : List D} {vs : List V}, HoldL K H lab k ns ds vs → vs.length = ns.length ∧ ds.length = ns.length
  | _, _, _, _, .nil => ⟨rfl, rfl⟩
  | _, _, _, _, .cons _ t => ⟨congrArg (· + 1) t.vlen.1, congrArg (· + 1) t.vlen.2⟩
section
variable {K : PySem.W.Frag} {mg : Str → Option Value} {W : WX}
theorem many_ok {lab0 : Labs} {H0 : Hp} (f0 : Free 0 lab0) {A : Nat → Bool} : ∀ (l : List (Bool × AE)) {sa : AS} {lab : Labs} {H : Hp} {σ : L2.St} {k : Nat} {Q : List V → Hp → Prop}, FI K H lab sa σ → Free k lab → Step lab0 H0 lab H →
    (match evMany l sa with
      | .ok ds s => ∀ vs H' lab', FI K H' lab' s σ → Step lab0 H0 lab' H' → Step lab H lab' H' → Free (k + l.length) lab' → HoldL K H' lab' k (l.map (·.1)) ds vs → Q vs H'
      | .ex x s => ∀ σ' H' lab' cls dx, FI K H' lab' s σ' → Step lab0 H0 lab' H' → AsgOk A σ σ' → Free 0 lab' → XOk mg H' x cls dx → W cls dx σ' H'
      | .no => False) → tArgs K mg W (l.map fun p => Arg.ev p.1 p.2) σ H Q
  | [], sa, lab, H, σ, k, Q, I, f, st0, h => h [] H lab I st0 (Step.refl _ _) f .nil
  | (n, g) :: r, sa, lab, H, σ, k, Q, I, f, st0, h => by
    simp only [evMany] at h
    show tEv K mg W n g σ H _
    refine ⟨lab, sa, k, I, f, ?_⟩
    cases hg : g sa with
    | ok d s1 =>
      rw [hg] at h
      dsimp only at h
      intro v H1 lab1 I1 st1 f1 hold
      refine many_ok (A := A) f0 r I1 f1 (st0.trans st1) ?_
      cases hr : evMany r s1 with
      | ok ds s =>
        rw [hr] at h
        intro vs H' lab' I' st0' st' f' rel
        refine h (v :: vs) H' lab' I' st0' (st1.trans st') (f'.mono (by simp only [List.length_cons]; omega)) (.cons (hold.stp I1.wf st' (fun _ e => nomatch e)) rel)
      | ex x s => rw [hr] at h; exact h
      | no => rw [hr] at h; exact h
    | ex x s1 =>
      rw [hg] at h
      exact fun H' lab' cls dx I' st f' xo => h σ H' _ cls dx I'.frzTmps (step_frzTmps f0 (st0.trans st)) (AsgOk.refl _ _) (free_frzTmps _) xo
    | no => rw [hg] at h; exact h
end
/-- several slots are set, from the left -/
def setMany : List (Nat × Bool) → List D → AS → Option AS
  | [], [], s => some s
  | (i, n) :: r, d :: ds, s => if i < s.length then setMany r ds (s.set i (some (d, normK d n))) else none
  | _, _, _ => none
def fPar (is : List Nat) (l : List (Bool × AE)) : ASt := fun s => match evMany l s with
  | .ok ds s1 => (match setMany (is.zip (l.map (·.1))) ds s1 with
    | some s2 => .ok .nx s2
    | none => .no)
  | .ex x s1 => .ex x s1
  | .no => .no
/-- the stores of several targets, as they lie in the slots -/
def setVs : List Nat → List V → L2.St → L2.St
  | i :: is, v :: vs, σ => setVs is vs (σ.set i (some v))
  | _, _, σ => σ
theorem setMany_ok {K : PySem.W.Frag} {A : Nat → Bool} {lab0 : Labs} {H0 H : Hp} (f0 : Free 0 lab0) {σ0 : L2.St} : ∀ (is : List Nat) {ns : List Bool} {ds : List D} {vs : List V} {k : Nat} {sa s : AS} {lab : Labs} {σ : L2.St}, (is.all A) = true → is.length = ns.length →
    FI K H lab sa σ → HoldL K H lab k ns ds vs → setMany (is.zip ns) ds sa = some s → Step lab0 H0 lab H → AsgOk A σ0 σ →
    ∃ lab', FI K H lab' s (setVs is vs σ) ∧ Step lab0 H0 lab' H ∧ AsgOk A σ0 (setVs is vs σ)
  | [], _, _, _, _, _, _, lab, σ, _, hl, I, h, e, st, as => by
    cases h with
    | nil =>
      simp [setMany] at e
      subst e
      exact ⟨lab, I, st, as⟩
    | cons => simp at hl
  | i :: is, _, _, _, k, sa, s, lab, σ, hA, hl, I, h, e, st, as => by
    cases h with
    | nil => simp at hl
    | cons h t =>
      simp only [List.zip_cons_cons, setMany] at e
      split at e
      · rename_i hi
        simp only [List.all_cons, Bool.and_eq_true] at hA
        refine setMany_ok f0 is (k := k + 1) hA.2 (by simpa using hl) (I.put hi h.norm) (t.relab (lab' := swp (swp lab (.slot i) .frz) (.tmp k) (.slot i)) (fun a e => swp_keep (fun q => nomatch q) (swp_keep (fun q => nomatch q) e)) (fun a e => swp_keep (fun q => nomatch q) (swp_keep (fun q => nomatch q) e)) (fun j hj a e => swp_keep (fun q => by cases q; omega) (swp_keep (fun q => nomatch q) e))) e (step_put (f0.mono (Nat.zero_le k)) st) (as.trans (AsgOk.set hA.1))
      · cases e
theorem setVs_len : ∀ (is : List Nat) (vs : List V) (σ : L2.St), (setVs is vs σ).length = σ.length
  | i :: is, v :: vs, σ => (setVs_len is vs _).trans (List.length_set ..)
  | [], _, _ => rfl
  | _ :: _, [], _ => rfl
section
variable {X : Cx} {W : WX} {rd : Bool} {A : Nat → Bool}
/-- the values of a tuple of stores: what the slots are given -/
theorem par_ok {is : List Nat} {l : List (Bool × AE)} {D : Ends} {σ : L2.St} {H : Hp} (hA : is.all A = true) (hl : is.length = l.length) (t : tSv X.K X.mg W rd A (fPar is l) D σ H) :
    tArgs X.K X.mg W (l.map fun p => Arg.ev p.1 p.2) σ H fun vs H1 => vs.length = l.length ∧ ∀ H2, (∀ a o, H1 a = some o → H2 a = some o) → D.nx (setVs is vs σ) H2 := by
  obtain ⟨lab, sa, I, fr, t⟩ := t
  refine many_ok (A := A) fr l I fr (Step.refl _ _) ?_
  simp only [fPar] at t
  cases hm : evMany l sa with
  | ok ds s =>
    rw [hm] at t
    dsimp only at t
    intro vs H' lab' I' st0 st f' hh
    refine ⟨by rw [hh.vlen.1, List.length_map], fun H2 k2 => ?_⟩
    have g : Grow lab' H' lab' H2 := fun a o e => ⟨k2 a o e, rfl⟩
    have w2 : Wf lab' H2 := fun a e => by
      have := I'.wf a e
      cases ho : H' a with
      | none => rw [ho] at this; exact this.elim
      | some o => rw [ho] at this; rw [k2 a o ho]; exact this
    have hh2 := hh.stp I'.wf g.step
    cases hs : setMany (is.zip (l.map (·.1))) ds s with
    | none => rw [hs] at t; exact t.elim
    | some s2 =>
      rw [hs] at t
      obtain ⟨lab2, I2, st2, as2⟩ := setMany_ok (A := A) fr (σ0 := σ) is hA (by rw [List.length_map]; exact hl) (I'.grow g w2) hh2 hs (st0.trans g.step) (AsgOk.refl _ _)
      exact t (setVs is vs σ) H2 (frzTmps lab2) I2.frzTmps (step_frzTmps fr st2) as2 (free_frzTmps _)
  | ex x s => rw [hm] at t; exact t
  | no => rw [hm] at t; exact t
/-- a, b = e1, e2, stored from the right (plain local names) -/
theorem ms_par2 {i j : Nat} {x y : Str} {a b : Expr} {n m : Bool} {f g : AE} {px py pt pos : Pos} {kt k2 pt2} (hc : X.calm = true) (hN : X.N.Nodup) (hi : X.N[i]? = some x) (hj : X.N[j]? = some y) (hij : i ≠ j) (hx : X.env.scope.names.lookup x = some .local) (hy : X.env.scope.names.lookup y = some .local) (hA : A i = true) (hB : A j = true) (ha : ME X W a n f) (hb : ME X W b m g)
    (hw : swappedStores [.Tuple [.Name x px, .Name y py] kt pt] (.Tuple [a, b] k2 pt2) X.env = pure (some [x, y])) (hs : swapsWithSole [.Tuple [.Name x px, .Name y py] kt pt] (.Tuple [a, b] k2 pt2) pos.line X.env = pure false := by rfl) (he : starEach [a, b] X.env = (false, eval a X.env) :: starEach [b] X.env := by rfl) (he2 : starEach [b] X.env = (false, eval b X.env) :: starEach [] X.env := by rfl) :
    MS X W rd A (.Assign [.Tuple [.Name x px, .Name y py] kt pt] (.Tuple [a, b] k2 pt2) pos) (fPar [i, j] [(n, f), (m, g)]) :=
  ps_mono (ps_par hc hN hi hj hij hx hy (pa_cons ha (pa_cons hb pa_nil he2) he) hw hs) fun D σ H t => by
    have h := par_ok (is := [i, j]) (l := [(n, f), (m, g)]) (by simp [hA, hB]) rfl t
    refine tArgs_mono (as := [.ev n f, .ev m g]) h ?_
    rintro vs H1 ⟨hl, q⟩
    match vs, hl with
    | [v, w], _ => exact ⟨v, w, rfl, q H1 fun _ _ e => e⟩
theorem ms_par3 {i j l : Nat} {x y z : Str} {a b c : Expr} {n m o : Bool} {f g h : AE} {px py pz pt pos : Pos} {kt k2 pt2} (hc : X.calm = true) (hN : X.N.Nodup) (hi : X.N[i]? = some x) (hj : X.N[j]? = some y) (hl : X.N[l]? = some z) (hij : i ≠ j) (hil : i ≠ l) (hjl : j ≠ l) (hx : X.env.scope.names.lookup x = some .local) (hy : X.env.scope.names.lookup y = some .local) (hz : X.env.scope.names.lookup z = some .local)
    (hA : A i = true) (hB : A j = true) (hC : A l = true) (ha : ME X W a n f) (hb : ME X W b m g) (hd : ME X W c o h)
    (hw : swappedStores [.Tuple [.Name x px, .Name y py, .Name z pz] kt pt] (.Tuple [a, b, c] k2 pt2) X.env = pure (some [x, y, z])) (hs : swapsWithSole [.Tuple [.Name x px, .Name y py, .Name z pz] kt pt] (.Tuple [a, b, c] k2 pt2) pos.line X.env = pure false := by rfl) (he : starEach [a, b, c] X.env = (false, eval a X.env) :: starEach [b, c] X.env := by rfl) (he2 : starEach [b, c] X.env = (false, eval b X.env) :: starEach [c] X.env := by rfl) (he3 : starEach [c] X.env = (false, eval c X.env) :: starEach [] X.env := by rfl) :
    MS X W rd A (.Assign [.Tuple [.Name x px, .Name y py, .Name z pz] kt pt] (.Tuple [a, b, c] k2 pt2) pos) (fPar [i, j, l] [(n, f), (m, g), (o, h)]) :=
  ps_mono (ps_par3 hc hN hi hj hl hij hil hjl hx hy hz (pa_cons ha (pa_cons hb (pa_cons hd pa_nil he3) he2) he) hw hs) fun D σ H t => by
    have q := par_ok (is := [i, j, l]) (l := [(n, f), (m, g), (o, h)]) (by simp [hA, hB, hC]) rfl t
    refine tArgs_mono (as := [.ev n f, .ev m g, .ev o h]) q ?_
    rintro vs H1 ⟨hl, q⟩
    match vs, hl with
    | [u, v, w], _ => exact ⟨u, v, w, rfl, q H1 fun _ _ e => e⟩
/-- the stores of names, as HandS reads them -/
def gNms : List Nat → TGs
  | [] => gNil
  | i :: is => gCons (gName i) (gNms is)
theorem gNms_ok {H : Hp} {Q : L2.St → Hp → Prop} : ∀ (is : List Nat) {vs : List V} {σ : L2.St}, vs.length = is.length → Q (setVs is vs σ) H → gNms is vs σ H Q
  | [], [], _, _, q => ⟨rfl, q⟩
  | i :: is, v :: vs, σ, hl, q => ⟨v, vs, rfl, gNms_ok is (by simpa using hl) q⟩
theorem mgs_nil : PGs X [] (gNms []) := pgs_nil
theorem mgs_cons {i : Nat} {is : List Nat} {x : Str} {es : List Expr} {pos : Pos} (hN : X.N.Nodup) (hi : X.N[i]? = some x) (hx : Loc X.env.scope x) (h2 : PGs X es (gNms is)) (hf : X.fn x = true ∨ X.env.scope.names.lookup x = some .local := by first | exact .inl rfl | exact .inr rfl | assumption)
    (hs : (assignEach (.Name x pos :: es) X.env).map (·.2) = assign (.Name x pos) X.env :: (assignEach es X.env).map (·.2) := by rfl) : PGs X (.Name x pos :: es) (gNms (i :: is)) := pgs_cons (pg_name hN hi hx hf) h2 hs
/-- a, b, .. = e1, e2, ..: a tuple is made and taken apart -/
theorem ms_parT {is : List Nat} {l : List (Bool × AE)} {ts es : List Expr} {pt pt2 pos : Pos} {k1 kx} (hc : X.calm = true) (hA : is.all A = true) (hl : is.length = l.length) (hz : l.length ≤ 1000) (hg : PGs X ts (gNms is)) (he : MAs X W es (l.map fun p => Arg.ev p.1 p.2))
    (hn : (assignEach ts X.env).length = l.length := by rfl) (hst : (assignEach ts X.env).findIdx? (·.1) = none := by rfl) (hs : swapsWithSole [.Tuple ts k1 pt] (.Tuple es kx pt2) pos.line X.env = pure false := by rfl) (hw : swappedStores [.Tuple ts k1 pt] (.Tuple es kx pt2) X.env = pure none := by rfl) (h1 : (assignEach [.Tuple ts k1 pt] X.env).map (·.2) = [assign (.Tuple ts k1 pt) X.env] := by rfl) :
    MS X W rd A (.Assign [.Tuple ts k1 pt] (.Tuple es kx pt2) pos) (fPar is l) :=
  ps_mono (ps_asg (pe_tup he) (pg_tup (n := l.length) hc hg hn hst) hs hw h1) fun D σ H t => by
    refine tArgs_mono (par_ok hA hl t) ?_
    rintro vs H1 ⟨hv, q⟩
    refine ⟨by rw [hv]; exact line1000 hz, fun p hp => ?_⟩
    refine ⟨p, vs, rfl, .inl (.inl upd_same), hv, gNms_ok is (by rw [hv, hl]) (q _ fun a o e => ?_)⟩
    rw [upd_ne (ne_of_none e hp)]
    exact e
end
/-! ### targets -/
mutual
inductive Tg where
  | nm (i : Nat)
  | tp (ts : Tgs)
inductive Tgs where
  | nil
  | cons (t : Tg) (ts : Tgs)
end
def Tgs.len : Tgs → Nat
  | .nil => 0
  | .cons _ ts => ts.len + 1
mutual
/-- a value that is frozen, stored by a target -/
def bindT : Tg → D → AS → Option AS
  | .nm i, d, s => if i < s.length then some (s.set i (some (d, 0))) else none
  | .tp ts, .tup ds, s => bindTs ts ds s
  | .tp ts, .lst ds, s => bindTs ts ds s
  | .tp _, _, _ => none
def bindTs : Tgs → List D → AS → Option AS
  | .nil, [], s => some s
  | .cons t ts, d :: ds, s => (match bindT t d s with
    | some s1 => bindTs ts ds s1
    | none => none)
  | _, _, _ => none
end
mutual
def tgAll (A : Nat → Bool) : Tg → Bool
  | .nm i => A i
  | .tp ts => tgsAll A ts
def tgsAll (A : Nat → Bool) : Tgs → Bool
  | .nil => true
  | .cons t ts => tgAll A t && tgsAll A ts
end
/-- a tuple or a list is taken apart -/
def gSq (K : PySem.W.Frag) (n : Nat) (t : TGs) : TG := fun v σ H Q => ∃ a xs, v = .ref a ∧ (SqT K H a xs ∨ SqL K H a xs) ∧ xs.length = n ∧ t xs σ H Q
theorem pg_sq {X : Cx} {pos : Pos} {es : List Expr} {k : Nat} {t : TGs} {n : Nat} (hc : X.calm = true) (h : PGs X es t)
    (hn : (assignEach es X.env).length = n := by rfl) (hst : (assignEach es X.env).findIdx? (·.1) = none := by rfl) : PG X (.Tuple es k pos) (gSq X.K n t) := by
  refine ⟨fun pins s σ H v u Q I r hw => ?_⟩
  obtain ⟨a, xs, e1, hq, hl, hw⟩ := hw
  rcases hq with hq | hq
  · exact (pg_tup (n := n) hc h hn hst).run pins s σ H v u Q I r ⟨a, xs, e1, hq, hl, hw⟩
  · exact (pg_unl (n := n) hc h hn hst).run pins s σ H v u Q I r ⟨a, xs, e1, hq, hl, hw⟩
mutual
def gT (K : PySem.W.Frag) : Tg → TG
  | .nm i => gName i
  | .tp ts => gSq K ts.len (gTs K ts)
def gTs (K : PySem.W.Frag) : Tgs → TGs
  | .nil => gNil
  | .cons t ts => gCons (gT K t) (gTs K ts)
end
theorem FI.put0 {K : PySem.W.Frag} {H : Hp} {lab : Labs} {sa : AS} {σ : L2.St} {i : Nat} {d : D} {v : V} (I : FI K H lab sa σ) (hi : i < sa.length) (r : Frz K H lab d v) : FI K H (swp lab (.slot i) .frz) (sa.set i (some (d, 0))) (σ.set i (some v)) :=
  ⟨I.wf.swap (fun e => nomatch e), by rw [List.length_set, List.length_set]; exact I.len, fun j e m hj => by
    by_cases q : i = j
    · subst q
      rw [List.getElem?_set_self hi] at hj
      simp at hj
      obtain ⟨rfl, rfl⟩ := hj
      exact ⟨v, List.getElem?_set_self (by rw [← I.len]; exact hi), Frz.relab (lab' := swp lab (.slot i) .frz) (fun a e => swp_keep (fun q => nomatch q) e) r⟩
    · rw [List.getElem?_set_ne q] at hj
      obtain ⟨u, hv, r'⟩ := I.sl j e m hj
      exact ⟨u, by rw [List.getElem?_set_ne q]; exact hv, r'.relab (fun a e => swp_keep (fun q => nomatch q) e) (fun a e => swp_keep (fun q => nomatch q) e) (fun a e => swp_keep (fun z => q (by cases z; rfl)) e)⟩⟩
mutual
theorem bind_ok {K : PySem.W.Frag} {A : Nat → Bool} {k : Nat} {H : Hp} : ∀ (t : Tg) {lab : Labs} {sa s : AS} {σ : L2.St} {d : D} {v : V} {Q : L2.St → Hp → Prop}, tgAll A t = true → FI K H lab sa σ → Free k lab → Frz K H lab d v → bindT t d sa = some s →
    (∀ σ' lab', FI K H lab' s σ' → Step lab H lab' H → AsgOk A σ σ' → Free k lab' → (∀ a, lab a = .frz → lab' a = .frz) → Q σ' H) → gT K t v σ H Q
  | .nm i, lab, sa, s, σ, d, v, Q, hA, I, f, r, e, q => by
    simp only [bindT] at e
    split at e
    · rename_i hi
      cases e
      exact q _ _ (I.put0 hi r) step_swp (AsgOk.set hA) (f.swap (fun _ _ e => nomatch e) (fun _ _ _ => by omega)) (fun a e => swp_keep (fun q => nomatch q) e)
    · cases e
  | .tp ts, lab, sa, s, σ, d, v, Q, hA, I, f, r, e, q => by
    cases d <;> simp only [bindT] at e <;> try cases e
    · obtain ⟨a, vs, rfl, hs, t⟩ := r.tup_inv
      obtain ⟨hl, h⟩ := binds_ok ts hA I f t e q
      exact ⟨a, vs, rfl, .inl hs, hl, h⟩
    · obtain ⟨a, vs, rfl, hs, t⟩ := (show Rdv K H lab _ _ from .inl r).lst_inv
      obtain ⟨hl, h⟩ := binds_ok ts hA I f t e q
      exact ⟨a, vs, rfl, .inr (.inl (.inl hs)), hl, h⟩
theorem binds_ok {K : PySem.W.Frag} {A : Nat → Bool} {k : Nat} {H : Hp} : ∀ (ts : Tgs) {lab : Labs} {sa s : AS} {σ : L2.St} {ds : List D} {vs : List V} {Q : L2.St → Hp → Prop}, tgsAll A ts = true → FI K H lab sa σ → Free k lab → FrzL K H lab ds vs → bindTs ts ds sa = some s →
    (∀ σ' lab', FI K H lab' s σ' → Step lab H lab' H → AsgOk A σ σ' → Free k lab' → (∀ a, lab a = .frz → lab' a = .frz) → Q σ' H) → vs.length = ts.len ∧ gTs K ts vs σ H Q
  | .nil, lab, sa, s, σ, ds, vs, Q, hA, I, f, r, e, q => by
    cases r with
    | nil =>
      simp [bindTs] at e
      subst e
      exact ⟨rfl, rfl, q σ lab I (Step.refl _ _) (AsgOk.refl _ _) f fun _ e => e⟩
    | cons => simp [bindTs] at e
  | .cons t ts, lab, sa, s, σ, ds, vs, Q, hA, I, f, r, e, q => by
    cases r with
    | nil => simp [bindTs] at e
    | cons h r =>
      rename_i d v ds vs
      simp only [bindTs] at e
      simp only [tgsAll, Bool.and_eq_true] at hA
      cases hb : bindT t d sa with
      | none => rw [hb] at e; cases e
      | some s1 =>
        rw [hb] at e
        have hl : vs.length = ts.len := by
          have : ∀ (ts : Tgs) {ds : List D} {s1 s : AS}, bindTs ts ds s1 = some s → ds.length = ts.len := fun ts => by
            induction ts using Tgs.rec (motive_1 := fun _ => True) with
            | nm => trivial
            | tp => trivial
            | nil => intro ds s1 s e; cases ds <;> simp [bindTs] at e; rfl
            | cons t ts _ ih =>
              intro ds s1 s e
              cases ds with
              | nil => simp [bindTs] at e
              | cons d ds =>
                simp only [bindTs] at e
                split at e
                · exact congrArg (· + 1) (ih e)
                · cases e
          rw [← r.length]
          exact this ts e
        refine ⟨congrArg (· + 1) hl, v, vs, rfl, bind_ok t hA.1 I f h hb fun σ1 lab1 I1 st1 as1 f1 k1 => ?_⟩
        exact (binds_ok ts hA.2 I1 f1 (r.relab k1) e fun σ2 lab2 I2 st2 as2 f2 k2 => q σ2 lab2 I2 (st1.trans st2) (as1.trans as2) f2 fun a e => k2 a (k1 a e)).2
end
end PV
/-! PV 6: assignment by targets; what is walked; for; list comprehensions -/
namespace PV
open PySem PySem.Spec PyProof.Rows L2
def fTgt (T : Tg) (f : AE) : ASt := fun s => match f s with
  | .ok d s1 => (match bindT T d s1 with
    | some s2 => .ok .nx s2
    | none => .no)
  | .ex x s1 => .ex x s1
  | .no => .no
abbrev MG (X : Cx) (tg : Expr) (T : Tg) : Prop := PG X tg (gT X.K T)
abbrev MGs (X : Cx) (ts : List Expr) (T : Tgs) : Prop := PGs X ts (gTs X.K T)
section
variable {X : Cx} {W : WX} {rd : Bool} {A : Nat → Bool}
theorem mg_nm {i : Nat} {x : Str} {pos : Pos} (hN : X.N.Nodup) (hi : X.N[i]? = some x) (hx : Loc X.env.scope x) (hf : X.fn x = true ∨ X.env.scope.names.lookup x = some .local := by first | exact .inl rfl | exact .inr rfl | assumption) : MG X (.Name x pos) (.nm i) := pg_name hN hi hx hf
theorem mgt_nil : MGs X [] .nil := pgs_nil
theorem mgt_cons {e : Expr} {es : List Expr} {t : Tg} {ts : Tgs} (h1 : MG X e t) (h2 : MGs X es ts) (hs : (assignEach (e :: es) X.env).map (·.2) = assign e X.env :: (assignEach es X.env).map (·.2) := by rfl) : MGs X (e :: es) (.cons t ts) := pgs_cons h1 h2 hs
theorem mg_tp {es : List Expr} {k pos} {ts : Tgs} (hc : X.calm = true) (h : MGs X es ts) (hn : (assignEach es X.env).length = ts.len := by rfl) (hst : (assignEach es X.env).findIdx? (·.1) = none := by rfl) : MG X (.Tuple es k pos) (.tp ts) := pg_sq hc h hn hst
theorem ms_tgt {tg e : Expr} {n : Bool} {f : AE} {T : Tg} {pos : Pos} (hA : tgAll A T = true) (he : ME X W e n f) (hg : MG X tg T) (hs : swapsWithSole [tg] e pos.line X.env = pure false := by rfl) (hw : swappedStores [tg] e X.env = pure none := by rfl) (h1 : (assignEach [tg] X.env).map (·.2) = [assign tg X.env] := by rfl) :
    MS X W rd A (.Assign [tg] e pos) (fTgt T f) := ps_mono (ps_asg he hg hs hw h1) fun D σ H t => by
  obtain ⟨lab, sa, I, fr, t⟩ := t
  refine ev_sv (A := A) I fr ?_
  simp only [fTgt] at t
  cases hf : f sa with
  | ok d s =>
    rw [hf] at t
    dsimp only at t
    intro v H' lab' I' st f' r
    cases hb : bindT T d s with
    | none => rw [hb] at t; exact t.elim
    | some s2 =>
      rw [hb] at t
      refine bind_ok T hA (I'.swap (l := .tmp 0) (l' := .frz) (fun e => nomatch e) (fun e => nomatch e) (fun e => nomatch e) (fun _ e => nomatch e)) f'.frzTmp (r.frz (fun a e => swp_keep (fun q => nomatch q) e) (fun a e => swp_at e) (by cases n <;> decide)) hb fun σ2 lab2 I2 st2 as2 f2 _ => ?_
      exact t σ2 H' lab2 I2 ((st.swpTmp fr).trans st2) as2 f2
  | ex x s => rw [hf] at t; exact t
  | no => rw [hf] at t; exact t
end
/-! ### what is walked -/
/-- J yields these items, whatever happens to what is nobody's own -/
def ItOk (K : PySem.W.Frag) (J : It) (lab : Labs) (H : Hp) (items : List D) : Prop := ∀ lab' H', Wf lab' H' → Step lab H lab' H' → ∀ i,
  (∀ d, items[i]? = some d → J.go i H' ∧ ∀ x H'', J.yld i H' x H'' → Grow lab' H' lab' H'' ∧ Wf lab' H'' ∧ Frz K H'' lab' d x) ∧ (items[i]? = none → J.stop i H')
abbrev AI := AS → R AS (List D)
def tIv (K : PySem.W.Frag) (mg : Str → Option Value) (W : WX) (f : AI) : TI := fun σ H R => ∃ lab sa k, FI K H lab sa σ ∧ Free k lab ∧ match f sa with
  | .ok items s => ∀ J H' lab', FI K H' lab' s σ → Step lab H lab' H' → Free k lab' → ItOk K J lab' H' items → R J H'
  | .ex x s => ∀ H' lab' cls dx, FI K H' lab' s σ → Step lab H lab' H' → Free k lab' → XOk mg H' x cls dx → W cls dx σ H'
  | .no => False
abbrev MI (X : Cx) (W : WX) (tg iter : Expr) (f : AI) : Prop := PI X tg iter (tIv X.K X.mg W f)
/-! ### for -/
def forGo (T : Tg) (b : ASt) : List D → ASt
  | [], s => .ok .nx s
  | d :: r, s => match bindT T d s with
    | some s1 => (match b s1 with
      | .ok .nx s2 => forGo T b r s2
      | .ok .ct s2 => forGo T b r s2
      | .ok .bk s2 => .ok .nx s2
      | q => q)
    | none => .no
def fFor (f : AI) (T : Tg) (b : ASt) : ASt := fun s => match f s with
  | .ok items s1 => forGo T b items s1
  | .ex x s1 => .ex x s1
  | .no => .no
theorem drop_cons {α : Type} {l : List α} {i : Nat} {d : α} (h : l[i]? = some d) : l.drop i = d :: l.drop (i + 1) := by
  have hi : i < l.length := by
    rcases Nat.lt_or_ge i l.length with h1 | h1
    · exact h1
    · rw [List.getElem?_eq_none h1] at h
      cases h
  rw [List.drop_eq_getElem_cons hi]
  rw [List.getElem?_eq_getElem hi] at h
  cases h
  rfl
section
variable {X : Cx} {W : WX} {rd : Bool} {A : Nat → Bool}
theorem ms_for {tg iter : Expr} {body : List Stmt} {fi : AI} {T : Tg} {f : ASt} {pos : Pos} (hp : PassesOwn (model X.prog X.w) X.A X.env X.xe) (hc : X.calm = true) (hA : tgAll A T = true) (hi : MI X W tg iter fi) (hg : MG X tg T) (hb : MSs X W rd A body f) (hs : ∀ x, foldedSetIterable iter X.env x = pure x := by intro _; rfl) :
    MS X W rd A (.For tg iter body [] pos) (fFor fi T f) := ps_mono (ps_for hp hc hi hg hb hs) fun D σ H t => by
  obtain ⟨lab, sa, I, fr, t⟩ := t
  simp only [fFor] at t
  refine ⟨lab, sa, 0, I, fr, ?_⟩
  cases hf : fi sa with
  | ex x s => rw [hf] at t; exact fun H' lab' cls dx I' st f' xo => t σ H' lab' cls dx I' st (AsgOk.refl _ _) f' xo
  | no => rw [hf] at t; exact t
  | ok items s0 =>
    rw [hf] at t
    dsimp only at t
    intro J H0 lab0 I0 st0 f0 it
    refine ⟨fun i m σ' H' => m = items.length - i ∧ ∃ lab' s, FI X.K H' lab' s σ' ∧ Free 0 lab' ∧ Step lab0 H0 lab' H' ∧ svPost X.K X.mg W rd A D lab' H' σ' (forGo T f (items.drop i) s), ⟨_, rfl, lab0, s0, I0, f0, Step.refl _ _, t.from st0 (AsgOk.refl _ _)⟩, ?_⟩
    rintro i m σ1 H1 ⟨hm, lab1, s1, I1, f1, st1, t1⟩
    obtain ⟨hgo, hstop⟩ := it lab1 H1 I1.wf st1 i
    cases hd : items[i]? with
    | none =>
      refine .inl ⟨hstop hd, ?_⟩
      have : items.drop i = [] := List.drop_eq_nil_of_le (by
        rcases Nat.lt_or_ge i items.length with h1 | h1
        · rw [List.getElem?_eq_getElem h1] at hd
          cases hd
        · exact h1)
      rw [this] at t1
      exact t1 σ1 H1 lab1 I1 (Step.refl _ _) (AsgOk.refl _ _) f1
    | some d =>
      obtain ⟨hg1, hy⟩ := hgo d hd
      have hi : i < items.length := by
        rcases Nat.lt_or_ge i items.length with h1 | h1
        · exact h1
        · rw [List.getElem?_eq_none h1] at hd
          cases hd
      rw [drop_cons hd] at t1
      simp only [forGo] at t1
      refine .inr ⟨hg1, fun σ' H' => ∃ lab' s, FI X.K H' lab' s σ' ∧ Free 0 lab' ∧ Step lab0 H0 lab' H' ∧ svPost X.K X.mg W rd A D lab' H' σ' (forGo T f (items.drop (i + 1)) s), fun σ' H' h => ⟨items.length - (i + 1), by omega, rfl, h⟩, fun x H2 hx => ?_⟩
      obtain ⟨gr, w2, hz⟩ := hy x H2 hx
      have I2 := I1.grow gr w2
      cases hbt : bindT T d s1 with
      | none => rw [hbt] at t1; exact t1.elim
      | some s2 =>
        rw [hbt] at t1
        dsimp only at t1
        refine bind_ok T hA I2 f1 hz hbt fun σ2 lab2 I3 st3 as3 f3 _ => ⟨lab2, s2, I3, f3, ?_⟩
        have st13 : Step lab1 H1 lab2 H2 := gr.step.trans st3
        cases hbd : f s2 with
        | ok fl s3 =>
          rw [hbd] at t1
          cases fl with
          | nx => exact fun σ' H' lab' I' st as f' => ⟨lab', s3, I', f', st1.trans (st13.trans st), t1.from (st13.trans st) (as3.trans as)⟩
          | ct => exact fun σ' H' lab' I' st as f' => ⟨lab', s3, I', f', st1.trans (st13.trans st), t1.from (st13.trans st) (as3.trans as)⟩
          | bk => exact fun σ' H' lab' I' st as f' => t1 σ' H' lab' I' (st13.trans st) (as3.trans as) f'
          | rt d => exact fun σ' H' lab' v I' st as f' r => t1 σ' H' lab' v I' (st13.trans st) (as3.trans as) f' r
        | ex x s3 => rw [hbd] at t1; exact fun σ' H' lab' cls dx I' st as f' xo => t1 σ' H' lab' cls dx I' (st13.trans st) (as3.trans as) f' xo
        | no => rw [hbd] at t1; exact t1
end
/-! ### sources -/
theorem wf_tup {lab : Labs} {H : Hp} {p : Addr} {xs : List V} (w : Wf lab H) (hp : H p = none) : Grow lab H lab (upd H p (.tup xs)) ∧ Wf lab (upd H p (.tup xs)) := by
  have hl : lab p = .no := by
    by_cases e : lab p = .no
    · exact e
    · have := w p e
      rw [hp] at this
      exact this.elim
  refine ⟨fun a o e => ?_, fun a e => ?_⟩
  · by_cases q : a = p
    · rw [q, hp] at e; cases e
    · exact ⟨by rw [upd_ne q]; exact e, rfl⟩
  · by_cases q : a = p
    · rw [q] at e; exact absurd hl e
    · rw [upd_ne q]; exact w a e
/-- what stands in a list that nobody changes -/
theorem seq_at {K : PySem.W.Frag} {lab lab' : Labs} {H H' : Hp} {a : Addr} {d : D} {ds : List D} (w : Wf lab H) (st : Step lab H lab' H') (h : Frz K H lab d (.ref a)) (e : d.items = some ds) : ∃ vs, (SqL K H' a vs ∨ SqT K H' a vs) ∧ FrzL K H' lab' ds vs := by
  obtain ⟨a', vs, e', hs, t⟩ := Rdv.seq (.inl (Frz.stp w st h)) e
  cases e'
  exact ⟨vs, hs, t⟩
theorem itl_ok {K : PySem.W.Frag} {lab : Labs} {H : Hp} {a : Addr} {d : D} {ds : List D} (h : Rdv K H lab d (.ref a)) (e : d.items? = some ds) (keep : ∀ lab' H', Wf lab' H' → Step lab H lab' H' → Rdv K H' lab' d (.ref a)) : ItOk K (Itl K a) lab H ds := fun lab' H' w st i => by
  obtain ⟨a', vs, e', hs, t⟩ := (keep lab' H' w st).seqL e
  cases e'
  refine ⟨fun x hx => ?_, fun hx => ⟨vs, hs, ?_⟩⟩
  · obtain ⟨v, hv, r⟩ := t.get hx
    refine ⟨⟨vs, v, hs, hv⟩, fun y H'' hy => ?_⟩
    obtain ⟨rfl, hy⟩ := hy
    have := hy vs hs
    rw [hv] at this
    cases this
    exact ⟨Grow.refl _ _, w, r⟩
  · rw [← t.length]
    rcases Nat.lt_or_ge i ds.length with h1 | h1
    · rw [List.getElem?_eq_getElem h1] at hx
      cases hx
    · exact h1
theorem itt_ok {K : PySem.W.Frag} {lab : Labs} {H : Hp} {a : Addr} {ds : List D} (w0 : Wf lab H) (h : Frz K H lab (.tup ds) (.ref a)) : ItOk K (Itt K a) lab H ds := fun lab' H' w st i => by
  obtain ⟨a', vs, e', hs, t⟩ := (Frz.stp w0 st h).tup_inv
  cases e'
  refine ⟨fun x hx => ?_, fun hx => ⟨vs, hs, ?_⟩⟩
  · obtain ⟨v, hv, r⟩ := t.get hx
    refine ⟨⟨vs, v, hs, hv⟩, fun y H'' hy => ?_⟩
    obtain ⟨rfl, hy⟩ := hy
    have := hy vs hs
    rw [hv] at this
    cases this
    exact ⟨Grow.refl _ _, w, r⟩
  · rw [← t.length]
    rcases Nat.lt_or_ge i ds.length with h1 | h1
    · rw [List.getElem?_eq_getElem h1] at hx
      cases hx
    · exact h1
/-- the signs of a text -/
def signsD (s : Str) : List D := s.cps.toList.map fun c => .str ⟨#[c]⟩
theorem its_ok {K : PySem.W.Frag} {lab : Labs} {H : Hp} (s : Str) : ItOk K (Its s) lab H (signsD s) := fun lab' H' w st i => by
  refine ⟨fun x hx => ?_, fun hx => ?_⟩
  · simp only [signsD, List.getElem?_map, Option.map_eq_some_iff] at hx
    obtain ⟨c, hc, rfl⟩ := hx
    have hc' : s.cps[i]? = some c := by simpa using hc
    refine ⟨?_, fun y H'' hy => ?_⟩
    · show i < s.cps.size
      rcases Nat.lt_or_ge i s.cps.size with h1 | h1
      · exact h1
      · rw [Array.getElem?_eq_none h1] at hc'
        cases hc'
    · obtain ⟨rfl, c', hc2, rfl⟩ := hy
      rw [hc'] at hc2
      cases hc2
      exact ⟨Grow.refl _ _, w, .str _⟩
  · show s.cps.size ≤ i
    simp only [signsD, List.getElem?_map, Option.map_eq_none_iff] at hx
    simpa using hx
theorem itr_ok {K : PySem.W.Frag} {lab : Labs} {H : Hp} (lo : Int) (n : Nat) : ItOk K (Itr lo n) lab H ((List.range n).map fun i => .int (lo + (i : Nat))) := fun lab' H' w st i => by
  refine ⟨fun x hx => ?_, fun hx => ?_⟩
  · simp only [List.getElem?_map, Option.map_eq_some_iff] at hx
    obtain ⟨c, hc, rfl⟩ := hx
    obtain ⟨h1, h2⟩ := List.getElem?_eq_some_iff.mp hc
    simp at h1 h2
    subst h2
    exact ⟨h1, fun y H'' hy => by obtain ⟨rfl, rfl⟩ := hy; exact ⟨Grow.refl _ _, w, .int _⟩⟩
  · show n ≤ i
    simpa using hx
/-- a value's items, as for and a comprehension walk them -/
def D.walk : D → Option (List D)
  | .lst ds => some ds
  | .ro ds => some ds
  | .tup ds => some ds
  | .str s => some (signsD s)
  | _ => none
def iAny (K : PySem.W.Frag) (tl : TE) : TI := fun σ H R => tl σ H fun x H1 => (∃ a, x = .ref a ∧ (∃ xs, SqL K H1 a xs) ∧ R (Itl K a) H1) ∨ (∃ a, x = .ref a ∧ (∃ xs, SqT K H1 a xs) ∧ R (Itt K a) H1) ∨ ∃ z, x = .str z ∧ R (Its z) H1
section
variable {X : Cx} {tg : Expr}
theorem pi_any {l : Expr} {tl : TE} (hl : PE X l tl) : PI X tg l (iAny X.K tl) := by
  refine ⟨fun pins s σ H R I h => ?_⟩
  refine thn (hl.run pins s σ H _ I h) fun v s1 ⟨x, H1, I1, r1, q1⟩ => ?_
  have hc : ∀ {y : V} {Q : VK}, Q y H1 → tC y σ H1 Q := fun h => h
  rcases q1 with ⟨a, e, ⟨xs, hq⟩, q⟩ | ⟨a, e, ⟨xs, hq⟩, q⟩ | ⟨z, e, q⟩
  · subst e
    cases r1
    obtain ⟨its, rv, p, hz⟩ := I1.list hq
    exact wpAny_pyIter_list p.isList (pi_one (tk := s1.toks) I1 _ (turn_list a _) ⟨_, Heap.get?_push_size _ rfl, rfl, rfl⟩ q)
  · subst e
    cases r1
    obtain ⟨its, rv, p, hz⟩ := I1.tuple hq
    exact wpAny_pyIter_tuple (show s1.heap.IsTuple a its.toArray from p) (pi_one (tk := s1.toks) I1 _ (turn_tuple a _) ⟨_, Heap.get?_push_size _ rfl, rfl, rfl⟩ q)
  · subst e
    obtain ⟨tk, rfl⟩ := r1
    cases hz : z.cps.all (· < 128)
    · exact wpAny_pyIter_wide hz (pi_one (tk := s1.toks) I1 _ (turn_str _ z tk "str_iterator" (.inr rfl)) ⟨_, Heap.get?_push_size _ rfl, rfl, rfl⟩ q)
    · exact wpAny_pyIter_ascii hz (pi_one (tk := s1.toks) I1 _ (turn_str _ z tk "str_ascii_iterator" (.inl rfl)) ⟨_, Heap.get?_push_size _ rfl, rfl, rfl⟩ q)
end
/-- a walk over an expression's value; an owned list is frozen from there on -/
def fIt (f : AE) : AI := fun s => match f s with
  | .ok d s1 => (match d.walk with
    | some ds => .ok ds s1
    | none => .no)
  | .ex x s1 => .ex x s1
  | .no => .no
/-- a walk over what a name holds, lent or frozen -/
def fItV (i : Nat) : AI := fun s => match s[i]? with
  | some (some (d, n)) => if n = 1 then .no else (match d.walk with
    | some ds => .ok ds s
    | none => .no)
  | _ => .no
section
variable {K : PySem.W.Frag}
theorem any_it {lab : Labs} {H : Hp} {d : D} {v : V} {ds : List D} (w0 : Wf lab H) (r : Rdv K H lab d v) (keep : ∀ lab' H', Wf lab' H' → Step lab H lab' H' → Rdv K H' lab' d v) (e : d.walk = some ds) : (∃ a, v = .ref a ∧ (∃ xs, SqL K H a xs) ∧ ItOk K (Itl K a) lab H ds) ∨ (∃ a, v = .ref a ∧ (∃ xs, SqT K H a xs) ∧ ItOk K (Itt K a) lab H ds) ∨ ∃ z, v = .str z ∧ ItOk K (Its z) lab H ds := by
  cases d <;> simp [D.walk] at e
  · subst e
    rw [r.str_inv]
    exact .inr (.inr ⟨_, rfl, its_ok _⟩)
  · subst e
    obtain ⟨a, vs, rfl, hs, t⟩ := r.tup_inv
    refine .inr (.inl ⟨a, rfl, ⟨_, hs⟩, itt_ok w0 ?_⟩)
    rcases r with r | ⟨_, _, _, _, _, _, _, _, sh, _⟩
    · exact r
    · cases sh
  · subst e
    obtain ⟨a, vs, rfl, hs, t⟩ := r.lst_inv
    exact .inl ⟨a, rfl, ⟨_, .inl (.inl hs)⟩, itl_ok r rfl keep⟩
  · subst e
    obtain ⟨a, vs, rfl, hs, t⟩ := r.ro_inv
    exact .inl ⟨a, rfl, ⟨_, hs⟩, itl_ok r rfl keep⟩
end
section
variable {X : Cx} {W : WX} {tg : Expr}
theorem mi_ev {e : Expr} {n : Bool} {f : AE} (h : ME X W e n f) : MI X W tg e (fIt f) := pi_mono (pi_any h) fun σ H R t => by
  obtain ⟨lab, sa, k, I, fr, t⟩ := t
  refine ⟨lab, sa, k, I, fr, ?_⟩
  simp only [fIt] at t
  cases hf : f sa with
  | ok d s =>
    rw [hf] at t
    dsimp only at t
    intro v H' lab' I' st f' r
    cases hw : d.walk with
    | none => rw [hw] at t; exact t.elim
    | some ds =>
      rw [hw] at t
      dsimp only at t
      have I2 := I'.swap (l := .tmp k) (l' := .frz) (fun e => nomatch e) (fun e => nomatch e) (fun e => nomatch e) (fun _ e => nomatch e)
      have r2 : Frz X.K H' (swp lab' (.tmp k) .frz) d v := r.frz (fun a e => swp_keep (fun q => nomatch q) e) (fun a e => swp_at e) (by cases n <;> decide)
      rcases any_it I2.wf (.inl r2) (fun lab2 H2 w st => .inl (Frz.stp I2.wf st r2)) hw with ⟨a, e, hs, it⟩ | ⟨a, e, hs, it⟩ | ⟨z, e, it⟩
      · exact .inl ⟨a, e, hs, t _ H' _ I2 (st.swpTmp fr) f'.frzTmp it⟩
      · exact .inr (.inl ⟨a, e, hs, t _ H' _ I2 (st.swpTmp fr) f'.frzTmp it⟩)
      · exact .inr (.inr ⟨z, e, t _ H' _ I2 (st.swpTmp fr) f'.frzTmp it⟩)
  | ex x s => rw [hf] at t; exact t
  | no => rw [hf] at t; exact t
theorem mi_v {e : Expr} {i : Nat} (h : PE X e (tVar i)) : MI X W tg e (fItV i) := pi_mono (pi_any h) fun σ H R t => by
  obtain ⟨lab, sa, k, I, fr, t⟩ := t
  simp only [fItV] at t
  cases hs : sa[i]? with
  | none => rw [hs] at t; exact t.elim
  | some o =>
    cases o with
    | none => rw [hs] at t; exact t.elim
    | some p =>
      obtain ⟨d, n⟩ := p
      obtain ⟨v, hv, r⟩ := I.sl i d n hs
      refine ⟨v, hv, ?_⟩
      rw [hs] at t
      match n, r, t with
      | 1, r, t => exact t.elim
      | 0, r, t =>
        dsimp only at t
        rw [if_neg (by decide)] at t
        cases hw : d.walk with
        | none => rw [hw] at t; exact t.elim
        | some ds =>
          rw [hw] at t
          rcases any_it I.wf (.inl r) (fun lab2 H2 w st => .inl (Frz.stp I.wf st r)) hw with ⟨a, e, hs, it⟩ | ⟨a, e, hs, it⟩ | ⟨z, e, it⟩
          · exact .inl ⟨a, e, hs, t _ H lab I (Step.refl _ _) fr it⟩
          · exact .inr (.inl ⟨a, e, hs, t _ H lab I (Step.refl _ _) fr it⟩)
          · exact .inr (.inr ⟨z, e, t _ H lab I (Step.refl _ _) fr it⟩)
      | n + 2, r, t =>
        dsimp only at t
        rw [if_neg (by omega)] at t
        cases hw : d.walk with
        | none => rw [hw] at t; exact t.elim
        | some ds =>
          rw [hw] at t
          rcases any_it I.wf (.inr ⟨_, r⟩) (fun lab2 H2 w st => .inr ⟨.lent, Own.stp I.wf st (fun i (e : Lab.lent = Lab.slot i) => nomatch e) r⟩) hw with ⟨a, e, hs, it⟩ | ⟨a, e, hs, it⟩ | ⟨z, e, it⟩
          · exact .inl ⟨a, e, hs, t _ H lab I (Step.refl _ _) fr it⟩
          · exact .inr (.inl ⟨a, e, hs, t _ H lab I (Step.refl _ _) fr it⟩)
          · exact .inr (.inr ⟨z, e, t _ H lab I (Step.refl _ _) fr it⟩)
def gRng2 (ds : List D) : Option (List D) := match ds with
  | [.int a, .int b] => if -(2 ^ 62) ≤ a ∧ a < 2 ^ 62 ∧ -(2 ^ 62) ≤ b ∧ b < 2 ^ 62 then some ((List.range (b - a).toNat).map fun i => .int (a + (i : Nat))) else none
  | _ => none
end
/-- what a walk's own reading asks of values -/
def ItR (K : PySem.W.Frag) (g : List D → Option (List D)) (r : List V → Hp → (It → Hp → Prop) → Prop) : Prop := ∀ (H : Hp) (lab : Labs) (ds : List D) (vs : List V) (is : List D) (R : It → Hp → Prop), Wf lab H → FrzL K H lab ds vs → g ds = some is → (∀ J, ItOk K J lab H is → R J H) → r vs H R
def fItF (g : List D → Option (List D)) (args : List Arg) : AI := fun s => match evArgs args s with
  | .ok xs s1 => (match inrAll xs with
    | some ds => (match g ds with
      | some is => .ok is s1
      | none => .no)
    | none => .no)
  | .ex x s1 => .ex x s1
  | .no => .no
section
variable {X : Cx} {W : WX} {tg : Expr}
theorem itF_ok {g : List D → Option (List D)} {r : List V → Hp → (It → Hp → Prop) → Prop} {args : List Arg} (h : ItR X.K g r) {σ : L2.St} {H : Hp} {R : It → Hp → Prop} (t : tIv X.K X.mg W (fItF g args) σ H R) : tArgs X.K X.mg W args σ H fun vs H1 => r vs H1 R := by
  obtain ⟨lab, sa, k, I, f, t⟩ := t
  refine args_ok args I f ?_
  simp only [fItF] at t
  cases he : evArgs args sa with
  | ok xs s =>
    rw [he] at t
    simp only at t
    intro vs H' lab' I' st f' rel
    cases hf : inrAll xs with
    | none => rw [hf] at t; exact t.elim
    | some ds =>
      rw [hf] at t
      simp only at t
      cases hg : g ds with
      | none => rw [hg] at t; exact t.elim
      | some is =>
        rw [hg] at t
        exact h H' lab' ds vs is R I'.wf (rel.frz hf) hg fun J it => t J H' lab' I' st f' it
  | ex x s => rw [he] at t; exact t
  | no => rw [he] at t; exact t
def gRng1 (ds : List D) : Option (List D) := match ds with
  | [.int b] => if -(2 ^ 62) ≤ b ∧ b < 2 ^ 62 then some ((List.range b.toNat).map fun i => .int (i : Nat)) else none
  | _ => none
theorem mi_range1 {a : Expr} {A : Arg} {p pos : Pos} (hm : X.mg "range" = none) (ha : MA X W a A) (hg : Gl X "range" := by rfl) (hs : starEach [a] X.env = [(false, eval a X.env)] := by rfl) : MI X W tg (.Call (.Name "range" p) [a] [] pos) (fItF gRng1 [A]) :=
  pi_mono (pi_range1 hg hm (mas_cons ha mas_nil hs) hs) fun σ H R t => itF_ok (r := fun vs H R => ∃ j : Int, vs = [.int j] ∧ -(2 ^ 62) ≤ j ∧ j < 2 ^ 62 ∧ R (Itr 0 j.toNat) H) (fun H lab ds vs is R w f hg q => by
    unfold gRng1 at hg
    split at hg
    · rename_i b
      split at hg
      · rename_i hb
        cases hg
        cases f with
        | cons h t =>
          cases t
          rw [h.int_inv]
          refine ⟨b, rfl, hb.1, hb.2, q _ ?_⟩
          have := itr_ok (K := X.K) (lab := lab) (H := H) 0 b.toNat
          simpa only [Int.zero_add] using this
      · cases hg
    · cases hg) t
theorem mi_range2 {a b : Expr} {A B : Arg} {p pos : Pos} (hm : X.mg "range" = none) (ha : MA X W a A) (hb : MA X W b B) (hg : Gl X "range" := by rfl) (hs : starEach [a, b] X.env = [(false, eval a X.env), (false, eval b X.env)] := by rfl) (hs2 : starEach [b] X.env = [(false, eval b X.env)] := by rfl) : MI X W tg (.Call (.Name "range" p) [a, b] [] pos) (fItF gRng2 [A, B]) :=
  pi_mono (pi_range2 hg hm (pa_cons ha (pa_cons hb pa_nil hs2) (by rw [hs, hs2])) hs hs2) fun σ H R t => itF_ok (r := fun vs H R => ∃ i j : Int, vs = [.int i, .int j] ∧ (-(2 ^ 62) ≤ i ∧ i < 2 ^ 62 ∧ -(2 ^ 62) ≤ j ∧ j < 2 ^ 62) ∧ R (Itr i (j - i).toNat) H) (fun H lab ds vs is R w f hg q => by
    unfold gRng2 at hg
    split at hg
    · rename_i a b
      split at hg
      · rename_i hb
        cases hg
        cases f with
        | cons h t =>
          cases t with
          | cons h' t =>
            cases t
            rw [h.int_inv, h'.int_inv]
            exact ⟨a, b, rfl, hb, q _ (itr_ok a _)⟩
      · cases hg
    · cases hg) t
end
end PV
/-! PV 7: list comprehensions -/
namespace PV
open PySem PySem.Spec PyProof.Rows L2
def unsets : List Nat → AS → AS
  | [], s => s
  | i :: is, s => (unsets is s).set i none
def okVs (vs : List Nat) (s : AS) : Bool := vs.all fun i => match s[i]? with
  | some (some (_, 1)) => false
  | _ => true
def restore (s0 : AS) : List Nat → AS → AS
  | [], s => s
  | i :: is, s => (restore s0 is s).set i ((s0[i]?).join)
def lcGo (T : Tg) (c : AT) (e : AE) (vs : List Nat) : List D → List D → AS → R AS (List D)
  | [], acc, s => .ok acc s
  | d :: r, acc, s => match bindT T d s with
    | none => .no
    | some s1 => (match c s1 with
      | .ok false s2 => lcGo T c e vs r acc (unsets vs s2)
      | .ok true s2 => (match e s2 with
        | .ok y s3 => lcGo T c e vs r (acc ++ [y]) (unsets vs s3)
        | _ => .no)
      | _ => .no)
def fLc (vs : List Nat) (f : AI) (T : Tg) (c : AT) (e : AE) : AE := fun s => match f s with
  | .ok items s1 => if okVs vs s1 = true ∧ items.length ≤ 16000000 then
      (match lcGo T c e vs items [] (unsets vs s1) with
        | .ok ds s2 => .ok (.lst ds) (restore s1 vs s2)
        | _ => .no)
    else .no
  | .ex x s1 => .ex x s1
  | .no => .no
theorem unsets_len : ∀ (vs : List Nat) (s : AS), (unsets vs s).length = s.length
  | [], _ => rfl
  | i :: is, s => by rw [unsets, List.length_set, unsets_len is s]
theorem restore_len (s0 : AS) : ∀ (vs : List Nat) (s : AS), (restore s0 vs s).length = s.length
  | [], _ => rfl
  | i :: is, s => by rw [restore, List.length_set, restore_len s0 is s]
theorem unsets_get : ∀ {vs : List Nat} {s : AS} {i : Nat} {p : D × Nat}, (unsets vs s)[i]? = some (some p) → s[i]? = some (some p) ∧ i ∉ vs
  | [], s, i, p, h => ⟨h, by simp⟩
  | j :: vs, s, i, p, h => by
    rw [unsets] at h
    by_cases q : j = i
    · subst q
      by_cases hl : j < (unsets vs s).length
      · rw [List.getElem?_set_self hl] at h
        simp at h
      · rw [List.getElem?_eq_none (by rw [List.length_set]; omega)] at h
        cases h
    · rw [List.getElem?_set_ne q] at h
      obtain ⟨h1, h2⟩ := unsets_get h
      exact ⟨h1, by simp [h2, Ne.symm q]⟩
theorem restore_get {s0 : AS} : ∀ {vs : List Nat} {s : AS} {i : Nat} {p : D × Nat}, (restore s0 vs s)[i]? = some (some p) → (i ∈ vs ∧ s0[i]? = some (some p)) ∨ (i ∉ vs ∧ s[i]? = some (some p))
  | [], s, i, p, h => .inr ⟨by simp, h⟩
  | j :: vs, s, i, p, h => by
    rw [restore] at h
    by_cases q : j = i
    · subst q
      by_cases hl : j < (restore s0 vs s).length
      · rw [List.getElem?_set_self hl] at h
        refine .inl ⟨by simp, ?_⟩
        cases h0 : s0[j]? with
        | none => rw [h0] at h; simp at h
        | some o => rw [h0] at h; simpa using h
      · rw [List.getElem?_eq_none (by rw [List.length_set]; omega)] at h
        cases h
    · rw [List.getElem?_set_ne q] at h
      rcases restore_get h with ⟨h1, h2⟩ | ⟨h1, h2⟩
      · exact .inl ⟨by simp [h1], h2⟩
      · exact .inr ⟨by simp [h1, Ne.symm q], h2⟩
theorem wipe_get (σ : L2.St) : ∀ (vs : List Nat) (i : Nat), (wipe σ vs)[i]? = if i ∈ vs ∧ i < σ.length then some none else σ[i]?
  | [], i => by simp [wipe]
  | v :: vs, i => by
    show ((wipe σ vs).set v none)[i]? = _
    by_cases q : v = i
    · subst q
      by_cases hl : v < σ.length
      · rw [List.getElem?_set_self (by rw [wipe_length]; exact hl), if_pos ⟨by simp, hl⟩]
      · rw [List.getElem?_eq_none (by rw [List.length_set, wipe_length]; omega), if_neg (by simp [hl]), List.getElem?_eq_none (by omega)]
    · rw [List.getElem?_set_ne q, wipe_get σ vs i]
      by_cases hm : i ∈ vs ∧ i < σ.length
      · rw [if_pos hm, if_pos ⟨by simp [hm.1], hm.2⟩]
      · rw [if_neg hm, if_neg (fun h => hm ⟨by
          have := h.1
          simp at this
          exact this.resolve_left (Ne.symm q), h.2⟩)]
theorem wipe_eq {σ σ' : L2.St} {vs : List Nat} (hl : σ'.length = σ.length) (h : ∀ i, i ∉ vs → σ'[i]? = σ[i]?) : wipe σ' vs = wipe σ vs := by
  refine List.ext_getElem? fun i => ?_
  rw [wipe_get, wipe_get, hl]
  by_cases hm : i ∈ vs ∧ i < σ.length
  · rw [if_pos hm, if_pos hm]
  · rw [if_neg hm, if_neg hm]
    by_cases q : i ∈ vs
    · have : σ.length ≤ i := by
        rcases Nat.lt_or_ge i σ.length with h1 | h1
        · exact absurd ⟨q, h1⟩ hm
        · exact h1
      rw [List.getElem?_eq_none this, List.getElem?_eq_none (by omega)]
    · exact h i q
theorem wipe_wipe (σ : L2.St) (vs : List Nat) : wipe (wipe σ vs) vs = wipe σ vs := wipe_eq (wipe_length σ vs) fun i hi => by rw [wipe_get, if_neg (by simp [hi])]
/-- in a block the block's names are empty at first -/
theorem FI.blk {K : PySem.W.Frag} {H : Hp} {lab : Labs} {s : AS} {σ : L2.St} {vs : List Nat} (I : FI K H lab s σ) : FI K H lab (unsets vs s) (wipe σ vs) :=
  ⟨I.wf, by rw [unsets_len, wipe_length]; exact I.len, fun i d n h => by
    obtain ⟨h1, h2⟩ := unsets_get h
    obtain ⟨v, hv, r⟩ := I.sl i d n h1
    exact ⟨v, by rw [wipe_get, if_neg (by simp [h2])]; exact hv, r⟩⟩
/-- behind a block its names are as they were -/
theorem FI.unblk {K : PySem.W.Frag} {H H' : Hp} {lab lab' : Labs} {s s' : AS} {σ : L2.St} {vs : List Nat} (I : FI K H lab s σ) (ok : okVs vs s = true) (st : Step lab H lab' H') (I' : FI K H' lab' s' (wipe σ vs)) : FI K H' lab' (restore s vs s') σ :=
  ⟨I'.wf, by rw [restore_len, I'.len, wipe_length], fun i d n h => by
    rcases restore_get h with ⟨h1, h2⟩ | ⟨h1, h2⟩
    · obtain ⟨v, hv, r⟩ := I.sl i d n h2
      refine ⟨v, hv, ?_⟩
      match n, r with
      | 0, r => exact Frz.stp I.wf st r
      | 1, r =>
        simp only [okVs, List.all_eq_true] at ok
        have := ok i h1
        rw [h2] at this
        cases this
      | n + 2, r => exact Own.stp I.wf st (fun _ e => nomatch e) r
    · obtain ⟨v, hv, r⟩ := I'.sl i d n h2
      rw [wipe_get, if_neg (by simp [h1])] at hv
      exact ⟨v, hv, r⟩⟩
/-- the object at an address in flight is changed -/
theorem Frz.updTmp {K : PySem.W.Frag} {H : Hp} {lab : Labs} {D₀ : Addr} {o : HO} {k : Nat} (w : Wf lab H) (hl : lab D₀ = .tmp k) : Step (labAt lab D₀ (.slot 0)) H (labAt lab D₀ (.slot 0)) (upd H D₀ o) := fun a u h n => by
  have q : a ≠ D₀ := fun q => n 0 (by rw [q]; exact labAt_same)
  exact ⟨by rw [upd_ne q]; exact h, rfl⟩
theorem wf_labAt {lab : Labs} {H : Hp} {D₀ : Addr} {k : Nat} {l : Lab} (w : Wf lab H) (hl : lab D₀ = .tmp k) : Wf (labAt lab D₀ l) H := fun a h => by
  by_cases q : a = D₀
  · rw [q]; exact w D₀ (by rw [hl]; exact fun e => nomatch e)
  · rw [labAt_ne q] at h; exact w a h
theorem frz_updTmp {K : PySem.W.Frag} {H : Hp} {lab : Labs} {D₀ : Addr} {o : HO} {k : Nat} {d : D} {v : V} (w : Wf lab H) (hl : lab D₀ = .tmp k) (h : Frz K H lab d v) : Frz K (upd H D₀ o) lab d v := by
  have h1 : Frz K H (labAt lab D₀ (.slot 0)) d v := h.relab fun a e => by
    rw [labAt_ne (fun q => by rw [q, hl] at e; cases e)]
    exact e
  have h2 : Frz K (upd H D₀ o) (labAt lab D₀ (.slot 0)) d v := Frz.stp (wf_labAt w hl) (Frz.updTmp w hl (K := K)) h1
  exact h2.relab fun a e => by
    by_cases q : a = D₀
    · rw [q, labAt_same] at e; cases e
    · rw [labAt_ne q] at e; exact e
theorem frzL_updTmp {K : PySem.W.Frag} {H : Hp} {lab : Labs} {D₀ : Addr} {o : HO} {k : Nat} (w : Wf lab H) (hl : lab D₀ = .tmp k) : ∀ {ds : List D} {vs : List V}, FrzL K H lab ds vs → FrzL K (upd H D₀ o) lab ds vs
  | _, _, .nil => .nil
  | _, _, .cons h t => .cons (frz_updTmp w hl h) (frzL_updTmp w hl t)
theorem FI.updTmp {K : PySem.W.Frag} {H : Hp} {lab : Labs} {s : AS} {σ : L2.St} {D₀ : Addr} {o : HO} {k : Nat} (I : FI K H lab s σ) (hl : lab D₀ = .tmp k) (m : Mut (some o)) : FI K (upd H D₀ o) lab s σ := by
  have own : ∀ {l : Lab} {d : D} {v : V}, (∀ j, l ≠ .tmp j) → Own K H lab l d v → Own K (upd H D₀ o) lab l d v := fun hn ⟨a, o', ds, vs, e, ha, hla, sh, t⟩ => by
    have q : a ≠ D₀ := fun q => by rw [q, hl] at hla; exact hn _ hla.symm
    exact ⟨a, o', ds, vs, e, by rw [upd_ne q]; exact ha, hla, sh, frzL_updTmp I.wf hl t⟩
  refine ⟨fun a h => ?_, I.len, fun i d n h => ?_⟩
  · by_cases q : a = D₀
    · rw [q, upd_same]; exact m
    · rw [upd_ne q]; exact I.wf a h
  · obtain ⟨v, hv, r⟩ := I.sl i d n h
    refine ⟨v, hv, ?_⟩
    match n, r with
    | 0, r => exact frz_updTmp I.wf hl r
    | 1, r =>
      rcases r with ⟨hm, r⟩ | r
      · exact .inl ⟨hm, frz_updTmp I.wf hl r⟩
      · exact .inr (own (fun _ e => nomatch e) r)
    | n + 2, r => exact own (fun _ e => nomatch e) r
/-- no tests -/
def fYes : AT := fun s => .ok true s
abbrev WF0 : WX := fun _ _ _ _ => False
mutual
theorem bindT_len : ∀ (T : Tg) {d : D} {s s' : AS}, bindT T d s = some s' → s'.length = s.length
  | .nm i, d, s, s', e => by
    simp only [bindT] at e
    split at e
    · cases e
      exact List.length_set ..
    · cases e
  | .tp ts, d, s, s', e => by
    cases d <;> simp only [bindT] at e <;> try cases e
    all_goals exact bindTs_len ts e
theorem bindTs_len : ∀ (ts : Tgs) {ds : List D} {s s' : AS}, bindTs ts ds s = some s' → s'.length = s.length
  | .nil, [], s, s', e => by
    simp only [bindTs] at e
    cases e
    rfl
  | .nil, _ :: _, s, s', e => by simp [bindTs] at e
  | .cons t ts, [], s, s', e => by simp [bindTs] at e
  | .cons t ts, d :: ds, s, s', e => by
    simp only [bindTs] at e
    cases hb : bindT t d s with
    | none => rw [hb] at e; cases e
    | some s1 =>
      rw [hb] at e
      exact (bindTs_len ts e).trans (bindT_len t hb)
end
section
variable {X : Cx} {W : WX}
theorem mts_nil : PTs X [] (tTv X.K X.mg W fYes) := ⟨fun pins s σ H Q I t => by
  obtain ⟨lab, sa, k, I', fr, t⟩ := t
  exact pts_nil.run pins s σ H Q I (t H lab I' (Step.refl _ _) fr)⟩
theorem mts_one {c : Expr} {f : AT} (h : MT X W c f) : PTs X [c] (tTv X.K X.mg W f) := pts_one h
theorem vsAll {vs : List Nat} : ∀ {σ σ' : L2.St}, AsgOk (fun i => vs.contains i) σ σ' → ∀ i, i ∉ vs → σ'[i]? = σ[i]? := fun h i hi => h i (by simpa using hi)
theorem lc_ok {vs : List Nat} {fi : AI} {T : Tg} {c : AT} {e : AE} {n : Bool} {wi : TI} {σ : L2.St} {H : Hp} {Q : VK} (hT : tgAll (fun i => vs.contains i) T = true) (hw : ∀ {R : It → Hp → Prop}, tIv X.K X.mg W fi σ H R → wi σ H R) (t : tEv X.K X.mg W true (fLc vs fi T c e) σ H Q) :
    tLc wi (gT X.K T) (tTv X.K X.mg WF0 c) (tEv X.K X.mg WF0 n e) vs σ H Q := by
  refine hw ?_
  obtain ⟨lab, sa, k, I, fr, t⟩ := t
  refine ⟨lab, sa, k, I, fr, ?_⟩
  simp only [fLc] at t
  cases hf : fi sa with
  | ex x s => rw [hf] at t; exact t
  | no => rw [hf] at t; exact t
  | ok items s1 =>
    rw [hf] at t
    dsimp only at t
    intro J H1 lab1 I1 st1 f1 it D₀ hD
    by_cases hc : okVs vs s1 = true ∧ items.length ≤ 16000000
    case neg => rw [if_neg hc] at t; exact t.elim
    rw [if_pos hc] at t
    have g1 : Grow lab1 H1 (labAt lab1 D₀ (.tmp k)) (upd H1 D₀ (.lst [])) := grow_new hD
    have w1 : Wf (labAt lab1 D₀ (.tmp k)) (upd H1 D₀ (.lst [])) := wf_new I1.wf trivial
    have ne : ∀ {a : Addr} {o : HO}, H1 a = some o → a ≠ D₀ := fun h q => by rw [q, hD] at h; cases h
    have I1g := I1.grow g1 w1
    have fr1 : Free (k + 1) (labAt lab1 D₀ (.tmp k)) := fun j hj a ha => by
      by_cases q : a = D₀
      · rw [q, labAt_same] at ha; cases ha; omega
      · rw [labAt_ne q] at ha; exact f1 j (by omega) a ha
    -- what is made so far stands at D₀
    let P : Nat → List D → AS → Hp → Prop := fun i acc s H' => ∃ lab' ys, FI X.K H' lab' s (wipe σ vs) ∧ Free (k + 1) lab' ∧ Step lab1 H1 lab' H' ∧ H' D₀ = some (.lst ys) ∧ lab' D₀ = .tmp k ∧ FrzL X.K H' lab' acc ys ∧ acc.length ≤ i
    generalize hR : lcGo T c e vs items [] (unsets vs s1) = R0 at t
    refine ⟨fun i m H' => m = items.length - i ∧ ∃ acc s, P i acc s H' ∧ lcGo T c e vs (items.drop i) acc s = R0, ⟨_, rfl, [], unsets vs s1, ⟨_, [], I1g.blk, fr1, g1.step, upd_same, labAt_same, .nil, Nat.le_refl _⟩, hR⟩, ?_⟩
    rintro i m H2 ⟨hm, acc, s2, ⟨lab2, ys, I2, f2, st2, hD2, hl2, ha2, hlen⟩, hgo⟩
    obtain ⟨hgo1, hstop⟩ := it lab2 H2 I2.wf st2 i
    cases hd : items[i]? with
    | none =>
      refine .inl ⟨hstop hd, ?_⟩
      have hnil : items.drop i = [] := List.drop_eq_nil_of_le (by
        rcases Nat.lt_or_ge i items.length with h1 | h1
        · rw [List.getElem?_eq_getElem h1] at hd; cases hd
        · exact h1)
      rw [hnil] at hgo
      simp only [lcGo] at hgo
      rw [← hgo] at t
      exact t (.ref D₀) H2 lab2 (I1.unblk hc.1 st2 I2) (st1.trans st2) f2 (.inr ⟨D₀, _, acc, ys, rfl, hD2, hl2, .lst acc ys, ha2⟩)
    | some d =>
      obtain ⟨hg1, hy⟩ := hgo1 d hd
      have hi : i < items.length := by
        rcases Nat.lt_or_ge i items.length with h1 | h1
        · exact h1
        · rw [List.getElem?_eq_none h1] at hd; cases hd
      rw [drop_cons hd] at hgo
      simp only [lcGo] at hgo
      refine .inr ⟨hg1, fun H' => ∃ acc s, P (i + 1) acc s H' ∧ lcGo T c e vs (items.drop (i + 1)) acc s = R0, fun H' h => ⟨items.length - (i + 1), by omega, rfl, h⟩, fun x H3 hx => ?_⟩
      obtain ⟨gr, w3, hz⟩ := hy x H3 hx
      have I3 := I2.grow gr w3
      have no : R0 ≠ .no := fun e => by rw [e] at t; exact t
      cases hb : bindT T d s2 with
      | none => rw [hb] at hgo; exact absurd hgo.symm no
      | some s3 =>
        rw [hb] at hgo
        dsimp only at hgo
        refine bind_ok (A := fun i => vs.contains i) T hT I3 f2 hz hb fun σ3 lab3 I4 st3 as3 f3 _ => ?_
        have hσ : wipe σ3 vs = wipe σ vs := by
          rw [wipe_eq (σ := wipe σ vs) (by rw [← I4.len, ← I3.len]; exact bindT_len T hb) (vsAll as3), wipe_wipe]
        refine ⟨hσ, lab3, s3, k + 1, I4, f3, ?_⟩
        have st23 : Step lab2 H2 lab3 H3 := gr.step.trans st3
        have nD : ∀ i, lab2 D₀ ≠ .slot i := fun i => by rw [hl2]; exact fun e => nomatch e
        have D3 := st23 D₀ _ hD2 nD
        have a3 := ha2.stp I2.wf st23
        cases hcs : c s3 with
        | ex x s4 => rw [hcs] at hgo; exact absurd hgo.symm no
        | no => rw [hcs] at hgo; exact absurd hgo.symm no
        | ok b s4 =>
          rw [hcs] at hgo
          intro H4 lab4 I5 st4 f4
          have nD3 : ∀ i, lab3 D₀ ≠ .slot i := fun i => by rw [D3.2, hl2]; exact fun e => nomatch e
          have D4 := st4 D₀ _ D3.1 nD3
          have a4 := a3.stp I4.wf st4
          have st24 := st23.trans st4
          cases b with
          | false =>
            rw [if_neg (by decide)]
            dsimp only at hgo
            refine ⟨acc, unsets vs s4, ⟨lab4, ys, ?_, f4, st2.trans st24, D4.1, by rw [D4.2, D3.2, hl2], a4, by omega⟩, hgo⟩
            rw [← hσ]
            exact I5.blk
          | true =>
            rw [if_pos rfl]
            dsimp only at hgo
            refine ⟨lab4, s4, k + 1, I5, f4, ?_⟩
            cases hes : e s4 with
            | ex x s5 => rw [hes] at hgo; exact absurd hgo.symm no
            | no => rw [hes] at hgo; exact absurd hgo.symm no
            | ok y s5 =>
              rw [hes] at hgo
              dsimp only at hgo
              intro v H5 lab5 I6 st5 f5 hv
              have nD4 : ∀ i, lab4 D₀ ≠ .slot i := fun i => by rw [D4.2, D3.2, hl2]; exact fun e => nomatch e
              have D5 := st5 D₀ _ D4.1 nD4
              have a5 := a4.stp I5.wf st5
              have I7 := I6.swap (l := .tmp (k + 1)) (l' := .frz) (fun e => nomatch e) (fun e => nomatch e) (fun e => nomatch e) (fun _ e => nomatch e)
              have hl5 : lab5 D₀ = .tmp k := by rw [D5.2, D4.2, D3.2, hl2]
              have hl7 : swp lab5 (.tmp (k + 1)) .frz D₀ = .tmp k := swp_keep (fun e => by cases e) hl5
              have v7 : Frz X.K H5 (swp lab5 (.tmp (k + 1)) .frz) y v := hv.frz (fun a e => swp_keep (fun q => nomatch q) e) (fun a e => swp_at e) (by cases n <;> decide)
              have a7 : FrzL X.K H5 (swp lab5 (.tmp (k + 1)) .frz) acc ys := FrzL.relab (lab' := swp lab5 (.tmp (k + 1)) .frz) (fun a e => swp_keep (fun q => nomatch q) e) a5
              refine ⟨ys, D5.1, ?_, acc ++ [y], unsets vs s5, ⟨swp lab5 (.tmp (k + 1)) .frz, ys ++ [v], ?_, ?_, ?_, upd_same, hl7, ?_, ?_⟩, hgo⟩
              · rw [← a7.length, sizeLine_eq]; omega
              · rw [← hσ]
                exact (I7.updTmp (o := .lst (ys ++ [v])) hl7 trivial).blk
              · exact f5.frzTmp
              · intro a o h1 n1
                obtain ⟨h2, l2⟩ := st2.trans (st24.trans st5) a o h1 n1
                refine ⟨by rw [upd_ne (ne h1)]; exact h2, ?_⟩
                rw [swp_ne, l2]
                rw [l2]
                exact f1 (k + 1) (by omega) a
              · exact (frzL_updTmp I7.wf hl7 a7).append (.cons (frz_updTmp I7.wf hl7 v7) .nil)
              · rw [List.length_append]
                simp
                omega
end
end PV
/-! PV G: defs that are called where no repr runs (guards known to be none): their promise, their call, the law's call -/
namespace PV
open PySem PySem.Spec PyProof.Rows L2
structure FnG (P : Program) (w : World) (K : PySem.W.Frag) (mg : Str → Option Value) (base : Heap) (k : Nat) (f : Addr) (fd : FuncData) (ps : List Str) (sp : Sp) : Prop where
  len : ∀ vs H Q E, sp vs H Q E → vs.length = ps.length
  run : ∀ (A : Around) (out : List Env) (s : Shared) (H : Hp) (as : Args) (us : List Value) (vs : List V) (Q : VK) (E : XK), Room k A → A.guards = some [] → Env0 P w K mg base A out s H → BindsTo s fd as (ps.zip us) → Vals vs us → sp vs H Q E →
    codeAny (model P w) A (.call (.ref f) as) (CR (L2.CX P w) out P w H s Q E) s
theorem FnG.mono {P : Program} {w : World} {K : PySem.W.Frag} {mg : Str → Option Value} {base : Heap} {j k : Nat} {f : Addr} {fd : FuncData} {ps : List Str} {sp : Sp} (F : FnG P w K mg base j f fd ps sp) (h : j ≤ k) : FnG P w K mg base k f fd ps sp :=
  ⟨F.len, fun A out s H as us vs Q E hr hg e0 hb r hs => F.run A out s H as us vs Q E (hr.mono h) hg e0 hb r hs⟩
theorem fnG_of {P : Program} {w : World} {K : PySem.W.Frag} {mg : Str → Option Value} {base : Heap} {x qual : Str} {st : Stmt} {f : Addr} {fd : FuncData} {N ps : List Str} {k : Nat} {sp : Sp} (F : FunD K x qual (defArgs st) (defBody st) (defScope st) [] [] f fd) (S : FnScope N ps (defScope st)) (len : ∀ vs H Q E, sp vs H Q E → vs.length = ps.length)
    (hbody : ∀ (cdv : Value) (A : Around) (out : List Env) (s : Shared) (H : Hp) (vs : List V) (Q : VK) (E : XK), Room k (A.deeper (envOfC qual (defScope st) s.heap.objs.size f cdv)) → A.guards = some [] → sp vs H Q E →
      ∃ t, PSs (cxOf (L2.CX P w) P w K mg base N qual (defScope st) f cdv A out s H E) (defBody st) t ∧ t { nx := fun _ H' => Q .non H', rt := Q } (L2.start N vs) H) : FnG P w K mg base (k + 1) f fd ps sp := by
  obtain ⟨oc, od, dV, kV, doc, pm, an, cdv, ct, osl, rfl, lk, hcd, _, _⟩ := F.ex
  refine ⟨len, fun A out s H as us vs Q E room hg e0 bnd rel want => ?_⟩
  have nargs := len _ _ _ _ want
  have kin : K.In s.heap := e0.mod.kin.keeps fun b o e => (e0.bs b o e).1
  have nolim : s.heap.NoLimit := e0.mod.nolimit.keeps fun b o e => (e0.bs b o e).1
  have kinds : ∀ y ∈ ps.zip us, (defScope st).names.lookup y.1 = some .local ∨ ((defScope st).names.lookup y.1 = some .cell ∧ ((cellsFrom (s.heap.objs.size + 1) (defScope st).names []).lookup y.1).isSome = true) := fun ⟨n, v⟩ hy => by
    rcases S.par n (List.of_mem_zip hy).1 with loc | cel
    · exact .inl loc
    · exact .inr ⟨cel, PySem.W.cellsFrom_some _ _ _ (.inl cel)⟩
  refine codeAny_call_function room.depth (kin _ _ lk) rfl S.co S.gen rfl (PySem.W.codeRec_of kin hcd) (bnd _ _ _ _ ?_)
  refine wpAny_newFunctionEnv_cells S.kind kinds fun env henv s1 made => ?_
  subst henv
  refine ⟨nolim.keeps made.toInCall.keep, codeAny_func ?_⟩
  obtain ⟨t, ht, hq⟩ := hbody cdv A out s H vs Q E (room.deeper _) hg want
  have I : Inv (cxOf (L2.CX P w) P w K mg base N qual (defScope st) f cdv A out s H E) [] (L2.start N vs) H s1 := inv_start S room.hd e0 nargs rel made
  refine wpAny_mono (ht.run [] s1 (L2.start N vs) H _ I hq) (fun fl s' hs => ?_) fun e s' hs => hs
  have done : ∀ {σ' : L2.St} {H' : Hp} {v : V} {u : Value}, Inv (cxOf (L2.CX P w) P w K mg base N qual (defScope st) f cdv A out s H E) [] σ' H' s' → RelV v u → Q v H' → CE out P w H s Q u s' :=
    fun {σ' H' v u} J rv q => ⟨v, H', J.os, J.bare, J.base, J.hok, rv, q⟩
  match fl, hs with
  | .ret u, ⟨v, σ', H', J, rv, q⟩ => exact done J rv q
  | .next, ⟨σ', H', J, q⟩ => exact done (v := V.non) (u := Value.none) J rfl q
  | .brk, ⟨_, _, _, q⟩ => exact False.elim q
  | .cont, ⟨_, _, _, q⟩ => exact False.elim q
section
variable {X : Cx} {k : Nat} {f C : Addr} {fd : FuncData} {ps : List Str} {sp : Sp} {E : L2.St → XK} {x m : Str} {p pos apos : Pos} {e o : Expr} {es : List Expr} {ta : TE} {t : TA}
theorem run_fnG {pins : List (Addr × Obj)} {σ : L2.St} {H : Hp} {s : Shared} {Q : VK} {us : List Value} {vs : List V} (F : FnG X.prog X.w X.K X.mg X.base k f fd ps sp) (hr : Room k X.A) (hgd : X.A.guards = some []) (hb : Binds X.K fd ps []) (hx : PassesAt (L2.CX X.prog X.w) X σ (E σ))
    (I : Inv X pins σ H s) (r : Vals vs us) (h : sp vs H Q (E σ)) : wpAny (model X.prog X.w) X.A (call (.ref f) us) (EP X pins σ Q) X.xe s := by
  have many : us.length = ps.length := by rw [← r.length]; exact F.len _ _ _ _ h
  have bnd := hb s us I.kIn (by rw [List.append_nil]; exact many)
  rw [List.append_nil] at bnd
  refine wpAny_call (codeAny_mono (F.run X.A X.stack s H ⟨us, []⟩ us vs Q (E σ) hr hgd I.env0 bnd r h) fun r s' hq => ?_)
  match r, hq with
  | .error e, hq => exact hx pins H s e s' I hq
  | .ok (.ret u), hq => exact I.after hq
  | .ok .next, hq => exact False.elim hq
  | .ok .brk, hq => exact False.elim hq
  | .ok .cont, hq => exact False.elim hq
theorem pe_callG (F : FnG X.prog X.w X.K X.mg X.base k f fd ps sp) (hr : Room k X.A) (hgd : X.A.guards = some []) (hg : Gl X x) (hm : X.mg x = some (.ref f)) (hk : PySem.W.keepIn X.K (.ref f) = true) (hb : Binds X.K fd ps []) (hx : ∀ σ, PassesAt (L2.CX X.prog X.w) X σ (E σ))
    (ha : PA X (e :: es) t) (hdb : (x == ("__debug__" : Str)) = false := by decide) (he : starEach (e :: es) X.env = (false, eval e X.env) :: starEach es X.env := by rfl) (hpl : (backTo pos (starEach es X.env)).any (·.1) = false := by rfl) :
    PE X (.Call (.Name x p) (e :: es) [] pos) (tCallS sp E t) := ⟨fun pins s σ H Q I h =>
  wpAny_Call_Name_kw (ld_glob I hg hm (PySem.W.callWith_K (h₀ := X.base) I.ok.mod.kin hk (thn (ha.run pos pins s σ H _ I h) fun us s1 ⟨vs, H1, I1, r, q⟩ => ⟨I1.kIn, run_fnG F hr hgd hb (hx σ) I1 r q⟩) he hpl) hdb)⟩
end
/-- the law's def is called with the script -/
theorem law_callG {P : Program} {w : World} {K : PySem.W.Frag} {mg mb : Str → Option Value} {k : Nat} {fa a : Addr} {fd : FuncData} {x : Str} {sp : Sp} {s₁ : Shared} {vs : List Value} {ns : List Int}
    (KX : K.In s₁.heap) (hns : s₁.heap.Ns mainGlobals mg) (hb : s₁.heap.Ns builtinsNs mb) (hbb : ∀ x : Str, x ≠ "__name__" → mb x = bootBuiltins x) (hlim : s₁.heap.NoLimit) (hg : s₁.gens = #[])
    (ha : s₁.heap.get? a = some { cls := .type "list", data := .seq vs.toArray }) (hi : IntsAre vs ns) (hl : ns.length ≤ sizeLine) (hr : Room k callerA)
    (F : ∀ base : Heap, K.In base → base.Ns mainGlobals mg → FnG P w K mg base k fa fd [x] sp) (hbind : ∀ (s : Shared) (u : Value), BindsTo s fd ⟨[u], []⟩ [(x, u)])
    (hsp : ∀ H : Hp, Only H → SqL K H a (ns.map V.int) → sp [.ref a] H (fun v _ => v = .bl true) fun _ _ _ => False) :
    codeAny (model P w) callerA (.call (.ref fa) ⟨[.ref a], []⟩) (fun r s' => r = .ok (.ret (.bool true)) ∧ OldK s₁.heap s'.heap ∧ s'.os = s₁.os ∧ AllBare s'.gens) s₁ := by
  have rv := vals_ints hi
  have nV := hi.length
  have main : ∀ H : Hp, Only H → SqL K H a (ns.map V.int) → HOk P w H s₁.heap → (∀ b, H b ≠ none → b = a) → (H a ≠ none → K.lookup a = none) →
      codeAny (model P w) callerA (.call (.ref fa) ⟨[.ref a], []⟩) (fun r s' => r = .ok (.ret (.bool true)) ∧ OldK s₁.heap s'.heap ∧ s'.os = s₁.os ∧ AllBare s'.gens) s₁ := by
    intro H only hS hok onlyA notK
    have there : ∀ {b : Addr} {o : Obj}, s₁.heap.get? b = some o → H b = none → (hidT s₁.heap H).get? b = some o := fun e n => hidT_get e n
    have dictFree : ∀ {b : Addr} {o : Obj} {es : Array DictEntry} {ep : Nat}, s₁.heap.get? b = some o → o.data = .dict es ep → H b = none := fun {b o es ep} e d => by
      cases q : H b with
      | none => rfl
      | some u =>
        obtain rfl : b = a := onlyA b (by rw [q]; simp)
        rw [ha] at e
        cases e
        exact nomatch (show Data.seq vs.toArray _ = Data.dict es ep from d)
    have ns' : ∀ {b : Addr} {m : Str → Option Value}, s₁.heap.Ns b m → (hidT s₁.heap H).Ns b m := fun {b m} ⟨o, es, ep, e, d, r⟩ => ⟨o, es, ep, there e (dictFree e d), d, r⟩
    have kin' : K.In (hidT s₁.heap H) := fun b o e => there (KX b o e) (by
      cases q : H b with
      | none => rfl
      | some u =>
        obtain rfl : b = a := onlyA b (by rw [q]; simp)
        rw [notK (by rw [q]; simp)] at e
        cases e)
    have md : Mod K mg (hidT s₁.heap H) := ⟨kin', ns' hns, ⟨mb, ns' hb, hbb⟩, let ⟨mc, h1, h2⟩ := hlim; ⟨mc, ns' h1, h2⟩⟩
    have e0 : Env0 P w K mg (hidT s₁.heap H) callerA [] s₁ H := ⟨rfl, md, fun b o e => of_hidT e, Nat.le_of_eq (hidT_size _ _), trivial, fun b hb => absurd (show b ∈ ([] : List Addr) from hb) (by simp), hok, .of_eq hg⟩
    refine codeAny_mono ((F _ kin' (ns' hns)).run callerA [] s₁ H ⟨[.ref a], []⟩ [.ref a] [.ref a] _ _ hr rfl e0 (hbind s₁ (.ref a)) (.cons rfl .nil) (hsp H only hS)) fun r s' h => ?_
    match r, h with
    | .error e, ⟨_, _, _, _, _, _, _, _, _, _, _, _, h⟩ => exact h.elim
    | .ok .next, h => exact False.elim h
    | .ok .brk, h => exact False.elim h
    | .ok .cont, h => exact False.elim h
    | .ok (.ret u), ⟨v, H', os, bare, un, hok', r', q⟩ =>
      obtain rfl : v = .bl true := q
      obtain rfl : u = Value.bool true := r'
      refine ⟨rfl, OldK.of_keep fun b o e => ?_, os, bare⟩
      cases q : H b with
      | none => exact un.keep b o e q (fun z => absurd (show b ∈ ([] : List Addr) from z) (by simp)) (by simp)
      | some u =>
        rcases only b with z | ⟨ob, xs, z⟩
        · rw [q] at z
          cases z
        · obtain ⟨e1, _⟩ := hok b _ z
          obtain ⟨e2, _⟩ := hok' b _ (un.frzs b ob _ z)
          rw [e] at e1
          cases e1
          exact e2
  cases hk : K.lookup a with
  | some o =>
    have e := KX a o hk
    rw [ha] at e
    cases e
    exact main (fun _ => none) (fun _ => .inl rfl) (.inr ⟨_, vs.toArray, _, hk, rfl, rfl, rfl, by rw [List.size_toArray, nV]; exact hl, by simpa using rv⟩) (fun b u z => nomatch (show (none : Option HO) = some u from z)) (fun b z => absurd rfl z) fun z => absurd rfl z
  | none =>
    refine main (fun b => if b = a then some (.frz { cls := .type "list", data := .seq vs.toArray } (.lst (ns.map V.int))) else none) (fun b => ?_) (.inl (.inr ⟨{ cls := .type "list", data := .seq vs.toArray }, if_pos rfl⟩)) (fun b u z => ?_) (fun b z => ?_) fun _ => hk
    · exact if hb : b = a then .inr ⟨_, _, if_pos hb⟩ else .inl (if_neg hb)
    · by_cases hb : b = a
      · have z' := (if_pos hb).symm.trans z
        cases z'
        subst hb
        exact ⟨ha, by rw [List.length_map]; exact hl, vs, _, rv, ha⟩
      · have z' := (if_neg hb).symm.trans z
        cases z'
    · exact if hb : b = a then hb else absurd (if_neg hb) z
end PV
/-! PV 8: comprehensions as expressions and in assignments; defs and their calls -/
namespace PV
open PySem PySem.Spec PyProof.Rows L2
section
variable {X : Cx} {W : WX} {rd : Bool} {A : Nat → Bool}
/-- a judgement in every block of X -/
abbrev InBlk (X : Cx) (scope : Scope) (J : Cx → Prop) : Prop := ∀ (s : Shared) (H : Hp) (C : Addr) (cl : List (Str × Addr)) (fp : List Addr), J (X.blk s H scope (compEnvC scope cl C X.env) fp)
theorem me_lc {elt tg iter : Expr} {ifs : List Expr} {scope : Scope} {own : List (Str × Nat)} {pos : Pos} {fi : AI} {T : Tg} {c : AT} {n : Bool} {e : AE} (hc : X.calm = true) (hN : X.N.Nodup) (hT : tgAll (fun i => (own.map (·.2)).contains i) T = true) (hi : MI X W tg iter fi) (ok : BlkOk X.N X.env.scope scope own)
    (hg : InBlk X scope fun Y => MG Y tg T) (ht : InBlk X scope fun Y => PTs Y ifs (tTv X.K X.mg WF0 c)) (he : InBlk X scope fun Y => ME Y WF0 elt n e) (hs : ∀ x, foldedSetIterable iter X.env x = pure x := by intro _; rfl) :
    ME X W (.ListComp elt [⟨tg, iter, ifs, 0⟩] scope pos) true (fLc (own.map (·.2)) fi T c e) :=
  pe_mono (pe_lc hc hN hi ok hg ht he hs) fun σ H Q t => lc_ok (n := n) hT (fun h => h) t
theorem ms_setLc {i : Nat} {y : Str} {py : Pos} {elt tg iter : Expr} {ifs : List Expr} {scope : Scope} {own : List (Str × Nat)} {pos spos : Pos} {fi : AI} {T : Tg} {c : AT} {n : Bool} {e : AE} (hc : X.calm = true) (hN : X.N.Nodup) (hy : X.N[i]? = some y) (hyl : X.env.scope.names.lookup y = some .local) (hA : A i = true) (hsw : swapsWith (.ListComp elt [⟨tg, iter, ifs, 0⟩] scope pos) (some (.Name y py)) spos.line X.env = pure true)
    (hT : tgAll (fun i => (own.map (·.2)).contains i) T = true) (hi : MI X W tg iter fi) (ok : BlkOk X.N X.env.scope scope own)
    (hg : InBlk X scope fun Y => MG Y tg T) (ht : InBlk X scope fun Y => PTs Y ifs (tTv X.K X.mg WF0 c)) (he : InBlk X scope fun Y => ME Y WF0 elt n e) (hs : ∀ x, foldedSetIterable iter X.env x = pure x := by intro _; rfl) :
    MS X W rd A (.Assign [.Name y py] (.ListComp elt [⟨tg, iter, ifs, 0⟩] scope pos) spos) (fSet i true (fLc (own.map (·.2)) fi T c e)) :=
  ps_mono (ps_setLc hc hN hy hyl hsw hi ok hg ht he hs) fun D σ H t => by
    refine lc_ok (W := W) (n := n) (e := e) hT (fun h => h) ?_
    obtain ⟨lab, sa, I, fr, t⟩ := t
    refine ev_sv (A := A) I fr ?_
    simp only [fSet] at t
    cases hf : fLc (own.map (·.2)) fi T c e sa with
    | ok d s =>
      rw [hf] at t
      dsimp only at t
      intro v H' lab' I' st f' r
      by_cases hi : i < s.length
      · rw [if_pos hi] at t
        exact t (σ.set i (some v)) H' _ (I'.put hi r.norm) (step_put fr st) (AsgOk.set hA) (free_put f')
      · rw [if_neg hi] at t
        exact t.elim
    | ex x s => rw [hf] at t; exact t
    | no => rw [hf] at t; exact t
end
/-! ### defs -/
/-- what a def does with its arguments: the value; the state is what its changed parameter then holds -/
abbrev AF := List (D × Nat) → R (Option (D × Nat)) D
def ioVal (io : Option Nat) (s : AS) : Option (D × Nat) := match io with
  | some i => (s[i]?).join
  | none => none
/-- a def's body run: N slots, io the parameter that it may change -/
def runDef (N : Nat) (io : Option Nat) (body : ASt) : AF := fun args => match body (args.map some ++ List.replicate (N - args.length) none) with
  | .ok .nx s => .ok .non (ioVal io s)
  | .ok (.rt d) s => .ok d (ioVal io s)
  | .ok _ _ => .no
  | .ex x s => .ex x (ioVal io s)
  | .no => .no
/-- the arguments as they stand at a call -/
def ArgsAt (K : PySem.W.Frag) (H : Hp) (lab : Labs) (vs : List V) (args : List (D × Nat)) : Prop := args.length = vs.length ∧ ∀ i d n, args[i]? = some (d, n) → ∃ v, vs[i]? = some v ∧ Hold K H lab (.slot i) n d v
def IoAt (K : PySem.W.Frag) (H : Hp) (lab : Labs) (vs : List V) (io : Option Nat) (o : Option (D × Nat)) : Prop := ∀ i d n, io = some i → o = some (d, n) → ∃ v, vs[i]? = some v ∧ Hold K H lab (.slot i) n d v
/-- a def's promise: it does F; its value is of kind rd -/
def spF (K : PySem.W.Frag) (mg : Str → Option Value) (rd : Bool) (io : Option Nat) (np : Nat) (F : AF) : Sp := fun vs H Q E => vs.length = np ∧ ∃ lab args, Wf lab H ∧ Free 0 lab ∧ ArgsAt K H lab vs args ∧ match F args with
  | .ok d o => ∀ v H' lab', Wf lab' H' → Step lab H lab' H' → Free 1 lab' → Hold K H' lab' (.tmp 0) rd.toNat d v → IoAt K H' lab' vs io o → Q v H'
  | .ex x o => ∀ H' lab' cls dx, Wf lab' H' → Step lab H lab' H' → Free 0 lab' → IoAt K H' lab' vs io o → XOk mg H' x cls dx → E cls dx H'
  | .no => False
section
variable {P : Program} {w : World} {K : PySem.W.Frag} {mg : Str → Option Value} {base : Heap}
theorem start_get {N : List Str} {vs : List V} {i : Nat} {v : V} (h : vs[i]? = some v) : (L2.start N vs)[i]? = some (some v) := by
  unfold L2.start
  rw [List.getElem?_append_left]
  · rw [List.getElem?_map, h]; rfl
  · rw [List.length_map]
    rcases Nat.lt_or_ge i vs.length with h1 | h1
    · exact h1
    · rw [List.getElem?_eq_none h1] at h; cases h
theorem FI.start {N : List Str} {lab : Labs} {H : Hp} {vs : List V} {args : List (D × Nat)} (w : Wf lab H) (h : ArgsAt K H lab vs args) : FI K H lab (args.map some ++ List.replicate (N.length - args.length) none) (L2.start N vs) := by
  refine ⟨w, ?_, fun i d n hi => ?_⟩
  · unfold L2.start
    rw [List.length_append, List.length_append, List.length_map, List.length_map, List.length_replicate, List.length_replicate, h.1]
  · by_cases hl : i < args.length
    · rw [List.getElem?_append_left (by rw [List.length_map]; exact hl), List.getElem?_map] at hi
      cases ha : args[i]? with
      | none => rw [ha] at hi; cases hi
      | some p =>
        rw [ha] at hi
        cases hi
        obtain ⟨v, hv, r⟩ := h.2 i d n ha
        exact ⟨v, start_get hv, r⟩
    · rw [List.getElem?_append_right (by rw [List.length_map]; omega)] at hi
      have := List.mem_of_getElem? hi
      have := List.eq_of_mem_replicate this
      cases this
/-- the body's reading, from the promise -/
theorem body_ok {N : List Str} {rd : Bool} {io : Option Nat} {np : Nat} {f : ASt} {A : Nat → Bool} {vs : List V} {H : Hp} {Q : VK} {E : XK} (hA : ∀ i, io = some i → A i = false) (h : spF K mg rd io np (runDef N.length io f) vs H Q E) :
    tSv K mg (fun cls dx _ H' => E cls dx H') rd A f { nx := fun _ H' => Q .non H', rt := Q } (L2.start N vs) H := by
  obtain ⟨hn, lab, args, w, fr, ha, h⟩ := h
  refine ⟨lab, _, FI.start w ha, fr, ?_⟩
  simp only [runDef] at h
  have ioAt : ∀ {s : AS} {σ' : L2.St} {H' : Hp} {lab' : Labs}, FI K H' lab' s σ' → AsgOk A (L2.start N vs) σ' → IoAt K H' lab' vs io (ioVal io s) := by
    intro s σ' H' lab' I' as i d n e1 e2
    subst e1
    simp only [ioVal] at e2
    have e3 : s[i]? = some (some (d, n)) := by
      cases hs : s[i]? with
      | none => rw [hs] at e2; cases e2
      | some o => rw [hs] at e2; simp at e2; rw [e2]
    obtain ⟨v, hv, r⟩ := I'.sl i d n e3
    rw [as i (hA i rfl)] at hv
    refine ⟨v, ?_, r⟩
    unfold L2.start at hv
    by_cases hl : i < vs.length
    · rw [List.getElem?_append_left (by rw [List.length_map]; exact hl), List.getElem?_map] at hv
      cases hx : vs[i]? with
      | none => rw [hx] at hv; cases hv
      | some u => rw [hx] at hv; simpa using hv
    · rw [List.getElem?_append_right (by rw [List.length_map]; omega)] at hv
      have := List.mem_of_getElem? hv
      have := List.eq_of_mem_replicate this
      cases this
  cases hf : f (args.map some ++ List.replicate (N.length - args.length) none) with
  | no => rw [hf] at h; exact h
  | ex x s =>
    rw [hf] at h
    exact fun σ' H' lab' cls dx I' st as f' xo => h H' lab' cls dx I'.wf st f' (ioAt I' as) xo
  | ok fl s =>
    rw [hf] at h
    cases fl with
    | nx => exact fun σ' H' lab' I' st as f' => h .non H' lab' I'.wf st (f'.mono (Nat.zero_le _)) (by cases rd <;> first | exact .non | exact .inl ⟨rfl, .non⟩) (ioAt I' as)
    | rt d => exact fun σ' H' lab' v I' st as f' r => h v H' lab' I'.wf st f' r (ioAt I' as)
    | bk => exact h.elim
    | ct => exact h.elim
/-- A DEF KEEPS ITS PROMISE -/
theorem def_ok {x qual : Str} {st : Stmt} {f : Addr} {fd : FuncData} {N ps : List Str} {k : Nat} {rd : Bool} {io : Option Nat} {body : ASt} (A : Nat → Bool) (F : FunD K x qual (defArgs st) (defBody st) (defScope st) [] [] f fd) (S : FnScope N ps (defScope st)) (hA : ∀ i, io = some i → A i = false)
    (hbody : ∀ (cdv : Value) (B : Around) (outer : List Env) (s : Shared) (H : Hp) (E : XK), Room k (B.deeper (envOfC qual (defScope st) s.heap.objs.size f cdv)) → B.guards = some [] →
      MSs (cxOf (L2.CX P w) P w K mg base N qual (defScope st) f cdv B outer s H E) (fun cls dx _ H' => E cls dx H') rd A (defBody st) body) :
    FnG P w K mg base (k + 1) f fd ps (spF K mg rd io ps.length (runDef N.length io body)) :=
  fnG_of F S (fun vs H Q E h => h.1) fun cdv B outer s H vs Q E hr hg h => ⟨_, hbody cdv B outer s H E hr hg, body_ok hA h⟩
end
/-! ### the law's end -/
theorem law_sp {K : PySem.W.Frag} {mg : Str → Option Value} {F : AF} {n : Nat} (h : ∀ ns : List Int, ns.length ≤ n → ∃ o, F [(.ro (ns.map D.int), 0)] = .ok (.bl true) o) (H : Hp) (a : Addr) (ns : List Int) (hn : ns.length ≤ n) (ho : Only H) (hS : SqL K H a (ns.map V.int)) :
    spF K mg false none 1 F [.ref a] H (fun v _ => v = .bl true) fun _ _ _ => False := by
  refine ⟨rfl, fun _ => .no, [(.ro (ns.map D.int), 0)], (fun a h => absurd rfl h), (fun _ _ _ (e : Lab.no = Lab.tmp _) => nomatch e), ⟨rfl, fun i d n e => ?_⟩, ?_⟩
  · match i, e with
    | 0, e =>
      simp at e
      obtain ⟨rfl, rfl⟩ := e
      refine ⟨.ref a, rfl, .ro (vs := ns.map V.int) ?_ (ints_frz ns)⟩
      rcases hS with (h | ⟨ob, h⟩) | h
      · rcases ho a with q | ⟨_, _, q⟩
        · rw [h] at q; cases q
        · rw [h] at q; cases q
      · exact .inl ⟨ob, h⟩
      · exact .inr h
    | i + 1, e => simp at e
  · obtain ⟨o, e⟩ := h ns hn
    rw [e]
    exact fun v H' lab' w st f r _ => Frz.bl_inv r
where
  ints_frz {K : PySem.W.Frag} {H : Hp} {lab : Labs} : ∀ ns : List Int, FrzL K H lab (ns.map D.int) (ns.map V.int)
    | [] => .nil
    | i :: r => .cons (.int i) (ints_frz r)
theorem walk_ofG {l : PySem.W.OpenLaw} {n k : Nat} {q : Program} {loose : List Str} {XP : (Str → Option Value) → Heap → Prop} {YP : World → Heap → Prop} {d : DefRec} {x : Str} (hn : l.most = some n) (hn2 : n ≤ sizeLine) (hdf : d.params.defaults = []) (hr : Room k callerA)
    (F : ∀ (w : World) (mg : Str → Option Value) (fa : Addr) (h : Heap), YP w h → h.Ns mainGlobals mg → mg d.name = some (.ref fa) →
      ∃ (K : PySem.W.Frag) (fd : FuncData) (sp : Sp), K.In h ∧ (∀ (s : Shared) (u : Value), BindsTo s fd ⟨[u], []⟩ [(x, u)]) ∧
        (∀ (H : Hp) (a : Addr) (ns : List Int), ns.length ≤ n → Only H → SqL K H a (ns.map V.int) → sp [.ref a] H (fun v _ => v = .bl true) fun _ _ _ => False) ∧
        ∀ base : Heap, K.In base → base.Ns mainGlobals mg → FnG l.prog w K mg base k fa fd [x] sp) :
    PySem.W.WalkO q loose XP YP l.row.toRowW d [] (fun f vs => PySem.call f vs) := by
  refine Att.attach_call hn hdf fun w s₀ s₁ mg mb fa o pm cd doc a vs ns G Y ho hd hcd hmg hobj hints hlen hg => ?_
  obtain ⟨K, fd, sp, KX, hb, hsp, hF⟩ := F w mg fa _ Y G.T.g hmg
  exact law_callG KX G.T.g G.T.b G.T.builtins G.T.nolimit hg hobj hints (Nat.le_trans hlen hn2) hr hF hb fun H hO hS => hsp H a ns hlen hO hS
end PV
/-! PV 9: calls of defs -/
namespace PV
open PySem PySem.Spec PyProof.Rows L2
/-- the slot that stands where the callee may change -/
def ioSlot (io : Option Nat) (xs : List (Nat ⊕ D)) : Option Nat := match io with
  | none => none
  | some p => match xs[p]? with
    | some (.inl i) => some i
    | _ => none
/-- what a slot hands to a callee: q the slot that the callee may change -/
def handed (q : Option Nat) (io : Option Nat) (j : Nat) (s : AS) : Nat ⊕ D → Option (D × Nat)
  | .inr d => some (d, 0)
  | .inl i => match s[i]? with
    | some (some (d, n)) =>
      if q = some i then (if io = some j ∧ n = 1 then some (d, 1) else none)
      else if n = 1 then (if d.mut then some (d, 2) else some (d, 0)) else some (d, n)
    | _ => none
def mkArgs (q io : Option Nat) (s : AS) : Nat → List (Nat ⊕ D) → Option (List (D × Nat))
  | _, [] => some []
  | j, x :: r => match handed q io j s x, mkArgs q io s (j + 1) r with
    | some a, some as => some (a :: as)
    | _, _ => none
def ioBack (q : Option Nat) (o : Option (D × Nat)) (s : AS) : Option AS := match q with
  | none => some s
  | some i => match o with
    | some (d, n) => if n ≤ 1 then some (s.set i (some (d, n))) else none
    | none => some (s.set i none)
def fCall (F : AF) (io : Option Nat) (args : List Arg) : AE := fun sa => match evArgs args sa with
  | .ok xs s => (match mkArgs (ioSlot io xs) io s 0 xs with
    | some as => (match F as with
      | .ok d o => (match ioBack (ioSlot io xs) o s with
        | some s' => .ok d s'
        | none => .no)
      | .ex x o => (match ioBack (ioSlot io xs) o s with
        | some s' => .ex x s'
        | none => .no)
      | .no => .no)
    | none => .no)
  | .ex x s => .ex x s
  | .no => .no
/-- the labels as the callee sees them -/
def labC (lab : Labs) (q : Option Nat) (p : Nat) : Labs := fun a => match lab a with
  | .slot i => if q = some i then .slot p else .lent
  | .tmp _ => .held
  | l => l
/-- the labels behind the call -/
def labR (lab : Labs) (H : Hp) (lab' : Labs) (q : Option Nat) (p k : Nat) : Labs := fun a =>
  if (H a).isSome = true ∧ (∀ i, q = some i → lab a ≠ .slot i) then lab a
  else match lab' a with
    | .slot j => (match q with
      | some i => if j = p then .slot i else .frz
      | none => .frz)
    | .tmp _ => .tmp k
    | .no => .no
    | _ => .frz
section
variable {K : PySem.W.Frag} {lab lab' : Labs} {H H' : Hp} {q : Option Nat} {p k : Nat} {a : Addr}
theorem labC_frz (h : lab a = .frz) : labC lab q p a = .frz := by simp [labC, h]
theorem labC_of_frz (h : labC lab q p a = .frz) : lab a = .frz := by
  unfold labC at h
  split at h
  · split at h <;> cases h
  · cases h
  · exact h
theorem labC_lent (h : lab a = .lent) : labC lab q p a = .lent := by simp [labC, h]
theorem labC_slot {i : Nat} (h : lab a = .slot i) (n : q ≠ some i) : labC lab q p a = .lent := by simp [labC, h, n]
theorem labC_io {i : Nat} (h : lab a = .slot i) (n : q = some i) : labC lab q p a = .slot p := by simp [labC, h, n]
theorem labC_no : labC lab q p a = .no ↔ lab a = .no := by
  unfold labC
  split
  · rename_i i h
    rw [h]
    split <;> simp
  · rename_i h; rw [h]; simp
  · rfl
theorem labC_tmp (j : Nat) : labC lab q p a ≠ .tmp j := by
  unfold labC
  split
  · split <;> simp
  · simp
  · rename_i h1 h2
    exact fun e => h2 _ e
/-- what is not the changed slot's is no slot's to the callee -/
theorem labC_nslot (n : ∀ i, q = some i → lab a ≠ .slot i) (j : Nat) : labC lab q p a ≠ .slot j := by
  unfold labC
  split
  · rename_i i h
    rw [if_neg (fun e => n i e h)]
    simp
  · simp
  · rename_i h1 h2
    exact fun e => h1 _ e
theorem labR_old (h : (H a).isSome = true) (n : ∀ i, q = some i → lab a ≠ .slot i) : labR lab H lab' q p k a = lab a := by
  unfold labR
  rw [if_pos ⟨h, n⟩]
theorem old_keep (st : Step (labC lab q p) H lab' H') {o : HO} (h : H a = some o) (n : ∀ i, q = some i → lab a ≠ .slot i) : H' a = some o ∧ lab' a = labC lab q p a ∧ labR lab H lab' q p k a = lab a := by
  obtain ⟨h1, l1⟩ := st a o h (labC_nslot n)
  exact ⟨h1, l1, labR_old (by rw [h]; rfl) n⟩
/-- behind the call what is frozen stays so -/
theorem labR_frz (st : Step (labC lab q p) H lab' H') (h : lab' a = .frz) : labR lab H lab' q p k a = .frz := by
  unfold labR
  by_cases c : (H a).isSome = true ∧ (∀ i, q = some i → lab a ≠ .slot i)
  · rw [if_pos c]
    obtain ⟨o, ho⟩ := Option.isSome_iff_exists.mp c.1
    obtain ⟨_, l1⟩ := st a o ho (labC_nslot c.2)
    rw [h] at l1
    exact labC_of_frz l1.symm
  · rw [if_neg c, h]
theorem labR_tmp (st : Step (labC lab q p) H lab' H') (w : Wf lab' H') {j : Nat} (h : lab' a = .tmp j) : labR lab H lab' q p k a = .tmp k := by
  unfold labR
  by_cases c : (H a).isSome = true ∧ (∀ i, q = some i → lab a ≠ .slot i)
  · obtain ⟨o, ho⟩ := Option.isSome_iff_exists.mp c.1
    obtain ⟨_, l1⟩ := st a o ho (labC_nslot c.2)
    rw [h] at l1
    exact absurd l1.symm (labC_tmp j)
  · rw [if_neg c, h]
theorem labR_io (st : Step (labC lab q p) H lab' H') {i : Nat} (e : q = some i) (h : lab' a = .slot p) : labR lab H lab' q p k a = .slot i := by
  unfold labR
  by_cases c : (H a).isSome = true ∧ (∀ i, q = some i → lab a ≠ .slot i)
  · obtain ⟨o, ho⟩ := Option.isSome_iff_exists.mp c.1
    obtain ⟨_, l1⟩ := st a o ho (labC_nslot c.2)
    rw [h] at l1
    exact absurd l1.symm (labC_nslot c.2 p)
  · rw [if_neg c, h, e]
    simp
theorem Hold.relab1 {l l' : Lab} {b : Bool} {d : D} {v : V} (s : ∀ a, lab a = .frz → lab' a = .frz) (e : ∀ a, lab a = l → lab' a = l') (h : Hold K H lab l b.toNat d v) : Hold K H lab' l' b.toNat d v := by
  cases b with
  | false => exact Frz.relab s h
  | true =>
    rcases h with ⟨m, h⟩ | h
    · exact .inl ⟨m, Frz.relab s h⟩
    · exact .inr (h.relab s e)
theorem wf_labC (w : Wf lab H) : Wf (labC lab q p) H := fun a h => w a fun e => h (labC_no.mpr e)
theorem free_labC : Free 0 (labC lab q p) := fun i _ a => labC_tmp i
theorem wf_labR (w : Wf lab H) (st : Step (labC lab q p) H lab' H') (w' : Wf lab' H') : Wf (labR lab H lab' q p k) H' := fun a h => by
  by_cases c : (H a).isSome = true ∧ (∀ i, q = some i → lab a ≠ .slot i)
  · obtain ⟨o, ho⟩ := Option.isSome_iff_exists.mp c.1
    obtain ⟨h1, _, h3⟩ := old_keep (k := k) st ho c.2
    rw [h3] at h
    have := w a h
    rw [ho] at this
    rw [h1]
    exact this
  · refine w' a fun e => h ?_
    unfold labR
    rw [if_neg c, e]
theorem step_labR (st : Step (labC lab q p) H lab' H') : Step lab H (labR lab H lab' q p k) H' := fun a o h n => by
  obtain ⟨h1, _, h3⟩ := old_keep (k := k) st h fun i _ => n i
  exact ⟨h1, h3⟩
theorem free_labR {m : Nat} (f : Free k lab) (hm : m = k ∧ (∀ a j, lab' a ≠ .tmp j) ∨ m = k + 1) : Free m (labR lab H lab' q p k) := fun j hj a e => by
  unfold labR at e
  split at e
  · exact f j (by omega) a e
  · split at e
    · split at e
      · split at e <;> cases e
      · cases e
    · rename_i h
      cases e
      rcases hm with ⟨rfl, hm⟩ | rfl
      · exact hm _ _ h
      · omega
    · cases e
    · cases e
theorem RelAs.len {σ : L2.St} : ∀ {xs : List (Nat ⊕ D)} {vs : List V}, RelAs K H lab σ xs vs → xs.length = vs.length
  | _, _, .nil => rfl
  | _, _, .vw _ t => congrArg (· + 1) t.len
  | _, _, .ev _ t => congrArg (· + 1) t.len
theorem RelAs.at {σ : L2.St} : ∀ {xs : List (Nat ⊕ D)} {vs : List V} {j i : Nat}, RelAs K H lab σ xs vs → xs[j]? = some (.inl i) → ∃ v, vs[j]? = some v ∧ σ[i]? = some (some v)
  | _, _, j, _, .nil, h => by simp at h
  | _, _, 0, i, .vw hv _, h => by
    simp at h
    subst h
    exact ⟨_, rfl, hv⟩
  | _, _, 0, i, .ev _ _, h => by simp at h
  | _, _, j + 1, i, .vw _ t, h => t.at (j := j) (by simpa using h)
  | _, _, j + 1, i, .ev _ t, h => t.at (j := j) (by simpa using h)
theorem evArgs_len : ∀ {args : List Arg} {sa s : AS} {xs : List (Nat ⊕ D)}, evArgs args sa = .ok xs s → xs.length = args.length
  | [], sa, s, xs, h => by cases h; rfl
  | .vw i :: r, sa, s, xs, h => by
    simp only [evArgs] at h
    split at h
    · cases hr : evArgs r sa with
      | ok ys s' =>
        rw [hr] at h
        cases h
        exact congrArg (· + 1) (evArgs_len hr)
      | ex x s' => rw [hr] at h; cases h
      | no => rw [hr] at h; cases h
    · cases h
  | .ev n f :: r, sa, s, xs, h => by
    simp only [evArgs] at h
    cases hf : f sa with
    | ok d s1 =>
      rw [hf] at h
      dsimp only at h
      cases hr : evArgs r s1 with
      | ok ys s' =>
        rw [hr] at h
        cases h
        exact congrArg (· + 1) (evArgs_len hr)
      | ex x s' => rw [hr] at h; cases h
      | no => rw [hr] at h; cases h
    | ex x s1 => rw [hf] at h; cases h
    | no => rw [hf] at h; cases h
theorem handed_ok {io : Option Nat} {s : AS} {σ : L2.St} {j : Nat} {x : Nat ⊕ D} {v : V} {d : D} {n : Nat} (I : FI K H lab s σ) (hq : ∀ i, q = some i → io = some p) (r : (∃ i, x = .inl i ∧ σ[i]? = some (some v)) ∨ ∃ d, x = .inr d ∧ Frz K H lab d v) (h : handed q io j s x = some (d, n)) : Hold K H (labC lab q p) (.slot j) n d v := by
  rcases r with ⟨i, rfl, hv⟩ | ⟨d', rfl, r⟩
  · simp only [handed] at h
    split at h
    · rename_i d' n' hs
      obtain ⟨u, hu, r⟩ := I.sl i d' n' hs
      rw [hv] at hu
      cases hu
      split at h
      · rename_i hqi
        split at h
        · rename_i hc
          obtain ⟨hio, rfl⟩ := hc
          cases h
          have hp : p = j := by
            have := hq i hqi
            rw [hio] at this
            cases this
            rfl
          rcases r with ⟨m, r⟩ | r
          · exact .inl ⟨m, r.relab fun a e => labC_frz e⟩
          · exact .inr (r.relab (fun a e => labC_frz e) fun a e => by rw [labC_io e hqi, hp])
        · cases h
      · rename_i hqi
        split at h
        · rename_i hn
          subst hn
          split at h
          · rename_i hm
            cases h
            rcases r with ⟨m, _⟩ | r
            · rw [hm] at m; cases m
            · exact r.relab (fun a e => labC_frz e) fun a e => labC_slot e hqi
          · rename_i hm
            cases h
            rcases r with ⟨_, r⟩ | ⟨_, _, _, _, _, _, _, sh, _⟩
            · exact r.relab fun a e => labC_frz e
            · exact absurd sh.dmut hm
        · rename_i hn
          cases h
          match n, hn, r with
          | 0, _, r => exact Frz.relab (fun a e => labC_frz e) r
          | 1, hn, _ => exact absurd rfl hn
          | n + 2, _, r => exact Own.relab (fun a e => labC_frz e) (fun a e => labC_lent e) r
    · cases h
  · simp only [handed] at h
    cases h
    exact r.relab fun a e => labC_frz e
theorem RelAs.cons_inv {σ : L2.St} {x : Nat ⊕ D} {xs : List (Nat ⊕ D)} {vs : List V} (h : RelAs K H lab σ (x :: xs) vs) : ∃ v ws, vs = v :: ws ∧ ((∃ i, x = .inl i ∧ σ[i]? = some (some v)) ∨ ∃ d, x = .inr d ∧ Frz K H lab d v) ∧ RelAs K H lab σ xs ws := by
  cases h with
  | vw h t => exact ⟨_, _, rfl, .inl ⟨_, rfl, h⟩, t⟩
  | ev h t => exact ⟨_, _, rfl, .inr ⟨_, rfl, h⟩, t⟩
theorem mkArgs_ok {io : Option Nat} {s : AS} {σ : L2.St} (I : FI K H lab s σ) (hq : ∀ i, q = some i → io = some p) : ∀ (xs : List (Nat ⊕ D)) {j : Nat} {vs : List V} {as : List (D × Nat)}, RelAs K H lab σ xs vs → mkArgs q io s j xs = some as → as.length = vs.length ∧ ∀ i d n, as[i]? = some (d, n) → ∃ v, vs[i]? = some v ∧ Hold K H (labC lab q p) (.slot (j + i)) n d v
  | [], j, vs, as, r, h => by
    cases r
    simp [mkArgs] at h
    subst h
    exact ⟨rfl, fun i d n e => by simp at e⟩
  | x :: xs, j, vs, as, r, h => by
    obtain ⟨v, ws, rfl, rx, rt⟩ := r.cons_inv
    simp only [mkArgs] at h
    cases hx : handed q io j s x with
    | none => rw [hx] at h; cases h
    | some a =>
      cases ht : mkArgs q io s (j + 1) xs with
      | none => rw [hx, ht] at h; cases h
      | some bs =>
        rw [hx, ht] at h
        cases h
        obtain ⟨hl, hg⟩ := mkArgs_ok I hq xs rt ht
        refine ⟨congrArg (· + 1) hl, fun i d n e => ?_⟩
        cases i with
        | zero =>
          simp at e
          subst e
          exact ⟨v, rfl, handed_ok I hq rx hx⟩
        | succ i =>
          obtain ⟨u, hu, r⟩ := hg i d n (by simpa using e)
          exact ⟨u, by simpa using hu, by rw [show j + (i + 1) = j + 1 + i by omega]; exact r⟩
/-- behind the call the caller's slots -/
theorem back_ok {io : Option Nat} {s s' : AS} {σ : L2.St} {xs : List (Nat ⊕ D)} {vs : List V} {o : Option (D × Nat)} (I : FI K H lab s σ) (hq : q = ioSlot io xs) (hp : ∀ i, q = some i → io = some p) (rel : RelAs K H lab σ xs vs) (st : Step (labC lab q p) H lab' H') (w' : Wf lab' H') (ioA : IoAt K H' lab' vs io o) (hb : ioBack q o s = some s') : FI K H' (labR lab H lab' q p k) s' σ := by
  have frz : ∀ {d : D} {v : V}, Frz K H lab d v → Frz K H' (labR lab H lab' q p k) d v := fun r =>
    (Frz.stp (wf_labC I.wf) st (r.relab fun a e => labC_frz (q := q) (p := p) e)).relab fun a e => labR_frz st e
  have frzL : ∀ {ds : List D} {vs : List V}, FrzL K H lab ds vs → FrzL K H' (labR lab H lab' q p k) ds vs := fun r =>
    (FrzL.stp (wf_labC I.wf) st (r.relab fun a e => labC_frz (q := q) (p := p) e)).relab fun a e => labR_frz st e
  have old : ∀ {i : Nat} {d : D} {n : Nat} {v : V}, q ≠ some i → Hold K H lab (.slot i) n d v → Hold K H' (labR lab H lab' q p k) (.slot i) n d v := by
    intro i d n v hn r
    have own : ∀ {l : Lab} {d : D} {v : V}, (∀ i, q = some i → l ≠ .slot i) → Own K H lab l d v → Own K H' (labR lab H lab' q p k) l d v := fun hl ⟨a, ob, ds, vs, e, ha, hla, sh, t⟩ => by
      obtain ⟨h1, _, h3⟩ := old_keep (k := k) st ha fun i e => by rw [hla]; exact hl i e
      exact ⟨a, ob, ds, vs, e, h1, h3.trans hla, sh, frzL t⟩
    match n, r with
    | 0, r => exact frz r
    | 1, r =>
      rcases r with ⟨m, r⟩ | r
      · exact .inl ⟨m, frz r⟩
      · exact .inr (own (fun j e z => hn (by cases z; exact e)) r)
    | n + 2, r => exact own (fun j e z => by cases z) r
  cases q with
  | none =>
    simp only [ioBack] at hb
    cases hb
    exact ⟨wf_labR I.wf st w', I.len, fun i d n h => by
      obtain ⟨v, hv, r⟩ := I.sl i d n h
      exact ⟨v, hv, old (fun e => nomatch e) r⟩⟩
  | some iq =>
    have hio := hp iq rfl
    subst hio
    have hx : xs[p]? = some (.inl iq) := by
      simp only [ioSlot] at hq
      split at hq
      · rename_i i h; cases hq; exact h
      · cases hq
    obtain ⟨vp, hvp, hσ⟩ := rel.at hx
    have oth : ∀ (x : Option (D × Nat)), (∀ d n, x = some (d, n) → Hold K H' (labR lab H lab' (some iq) p k) (.slot iq) n d vp) → FI K H' (labR lab H lab' (some iq) p k) (s.set iq x) σ := fun x hx =>
      ⟨wf_labR I.wf st w', by rw [List.length_set]; exact I.len, fun i d n h => by
        by_cases e : iq = i
        · subst e
          by_cases hl : iq < s.length
          · rw [List.getElem?_set_self hl] at h
            exact ⟨vp, hσ, hx d n (by simpa using h)⟩
          · rw [List.getElem?_eq_none (by rw [List.length_set]; omega)] at h
            cases h
        · rw [List.getElem?_set_ne e] at h
          obtain ⟨v, hv, r⟩ := I.sl i d n h
          exact ⟨v, hv, old (fun z => e (by cases z; rfl)) r⟩⟩
    simp only [ioBack] at hb
    cases o with
    | none =>
      cases hb
      exact oth none fun d n e => nomatch e
    | some dn =>
      obtain ⟨d', n'⟩ := dn
      dsimp only at hb
      split at hb
      · rename_i hn
        cases hb
        refine oth _ fun d n e => ?_
        cases e
        obtain ⟨u, hu, r⟩ := ioA p d' n' rfl rfl
        rw [hvp] at hu
        cases hu
        match n', hn, r with
        | 0, _, r => exact Hold.relab1 (b := false) (fun a e => labR_frz st e) (fun a e => labR_io st rfl e) r
        | 1, _, r => exact Hold.relab1 (b := true) (fun a e => labR_frz st e) (fun a e => labR_io st rfl e) r
      · cases hb
end
section
variable {X : Cx} {W : WX}
theorem ioSlot_io {io : Option Nat} {xs : List (Nat ⊕ D)} {p : Nat} (hp : ∀ i, io = some i → i = p) : ∀ i, ioSlot io xs = some i → io = some p := fun i h => by
  unfold ioSlot at h
  split at h
  · cases h
  · rename_i j
    rw [hp j rfl]
theorem me_call {k : Nat} {f : Addr} {fd : FuncData} {ps : List Str} {rd : Bool} {io : Option Nat} {F : AF} {x : Str} {p pos : Pos} {e : Expr} {es : List Expr} {args : List Arg} (tk : Takes X W) (hgd : X.A.guards = some []) (G : FnG X.prog X.w X.K X.mg X.base k f fd ps (spF X.K X.mg rd io ps.length F)) (hr : Room k X.A) (hm : X.mg x = some (.ref f)) (hk : PySem.W.keepIn X.K (.ref f) = true) (hb : Binds X.K fd ps [])
    (ha : MAs X W (e :: es) args) (hl : args.length = ps.length) (hg : Gl X x := by rfl) (hdb : (x == ("__debug__" : Str)) = false := by decide) (he : starEach (e :: es) X.env = (false, eval e X.env) :: starEach es X.env := by rfl) (hpl : (backTo pos (starEach es X.env)).any (·.1) = false := by rfl) :
    ME X W (.Call (.Name x p) (e :: es) [] pos) rd (fCall F io args) := pe_mono (pe_callG G hr hgd hg hm hk hb (fun σ => passAt tk σ) ha hdb he hpl) fun σ H Q t => by
  obtain ⟨lab, sa, kk, I, fr, t⟩ := t
  refine args_ok args I fr ?_
  simp only [fCall] at t
  cases hev : evArgs args sa with
  | ex x s => rw [hev] at t; exact t
  | no => rw [hev] at t; exact t
  | ok xs s =>
    rw [hev] at t
    dsimp only at t
    intro vs H1 lab1 I1 st1 f1 rel
    obtain ⟨p, hpp⟩ : ∃ p, ∀ i, io = some i → i = p := by
      cases io with
      | none => exact ⟨0, fun i e => nomatch e⟩
      | some i => exact ⟨i, fun j e => by cases e; rfl⟩
    have hp := ioSlot_io (xs := xs) hpp
    cases hm : mkArgs (ioSlot io xs) io s 0 xs with
    | none => rw [hm] at t; exact t.elim
    | some as =>
      rw [hm] at t
      dsimp only at t
      obtain ⟨hla, hga⟩ := mkArgs_ok I1 hp xs rel hm
      refine ⟨by rw [← rel.len, evArgs_len hev, hl], labC lab1 (ioSlot io xs) p, as, wf_labC I1.wf, free_labC, ⟨hla, fun i d n e => by
        obtain ⟨v, hv, r⟩ := hga i d n e
        exact ⟨v, hv, by rw [Nat.zero_add] at r; exact r⟩⟩, ?_⟩
      cases hF : F as with
      | no => rw [hF] at t; exact t
      | ok d o =>
        rw [hF] at t
        dsimp only at t
        intro v H' lab' w' st' f' r ioA
        cases hb : ioBack (ioSlot io xs) o s with
        | none => rw [hb] at t; exact t.elim
        | some s' =>
          rw [hb] at t
          refine t v H' (labR lab1 H1 lab' (ioSlot io xs) p kk) (back_ok I1 rfl hp rel st' w' ioA hb) (st1.trans (step_labR st')) (free_labR f1 (.inr rfl)) (r.relab1 (fun a e => labR_frz st' e) fun a e => labR_tmp st' w' e)
      | ex x o =>
        rw [hF] at t
        dsimp only at t
        intro H' lab' cls dx w' st' f' ioA xo
        cases hb : ioBack (ioSlot io xs) o s with
        | none => rw [hb] at t; exact t.elim
        | some s' =>
          rw [hb] at t
          exact t H' (labR lab1 H1 lab' (ioSlot io xs) p kk) cls dx (back_ok I1 rfl hp rel st' w' ioA hb) (st1.trans (step_labR st')) (free_labR f1 (.inl ⟨rfl, fun a j => f' j (Nat.zero_le _) a⟩)) xo
end
/-! ### defs by their names -/
abbrev DefAt (K : PySem.W.Frag) (mg : Str → Option Value) (x : Str) (st : Stmt) : Prop := ∃ f fd, mg x = some (.ref f) ∧ FunD K x x (defArgs st) (defBody st) (defScope st) [] [] f fd
/-- a def of the module with its promise -/
structure Def (P : Program) (w : World) (K : PySem.W.Frag) (mg : Str → Option Value) (base : Heap) (k : Nat) (x : Str) (ps : List Str) (rd : Bool) (io : Option Nat) (F : AF) : Prop where
  ex : ∃ f fd, mg x = some (.ref f) ∧ PySem.W.keepIn K (.ref f) = true ∧ Binds K fd ps [] ∧ FnG P w K mg base k f fd ps (spF K mg rd io ps.length F)
theorem Def.mono {P : Program} {w : World} {K : PySem.W.Frag} {mg : Str → Option Value} {base : Heap} {j k : Nat} {x : Str} {ps : List Str} {rd : Bool} {io : Option Nat} {F : AF} (d : Def P w K mg base j x ps rd io F) (h : j ≤ k) : Def P w K mg base k x ps rd io F := by
  obtain ⟨f, fd, h1, h2, h3, h4⟩ := d.ex
  exact ⟨f, fd, h1, h2, h3, h4.mono h⟩
theorem def_mk {P : Program} {w : World} {K : PySem.W.Frag} {mg : Str → Option Value} {base : Heap} {x : Str} {st : Stmt} {N ps : List Str} {k : Nat} {rd : Bool} {io : Option Nat} {body : ASt} (A : Nat → Bool) (D0 : DefAt K mg x st)
    (hbind : ∀ (kV doc pm : Value) (an : Option Addr) (cdv ct : Value) (us : List Value), us.length = ps.length → bindArgs (PySem.W.fnOf x x (defArgs st) (defBody st) (defScope st) .none kV doc pm an cdv ct) ⟨us, []⟩ = pure (ps.zip us)) (S : FnScope N ps (defScope st)) (hA : ∀ i, io = some i → A i = false)
    (hbody : ∀ (f : Addr) (cdv : Value) (B : Around) (outer : List Env) (s : Shared) (H : Hp) (E : XK), Room k (B.deeper (envOfC x (defScope st) s.heap.objs.size f cdv)) → B.guards = some [] →
      MSs (cxOf (L2.CX P w) P w K mg base N x (defScope st) f cdv B outer s H E) (fun cls dx _ H' => E cls dx H') rd A (defBody st) body) : Def P w K mg base (k + 1) x ps rd io (runDef N.length io body) := by
  obtain ⟨f, fd, hm, F⟩ := D0
  refine ⟨f, fd, hm, F.kp, F.bindsN hbind, def_ok A F S hA fun cdv B outer s H E hr hg => hbody f cdv B outer s H E hr hg⟩
section
variable {X : Cx} {W : WX}
theorem me_callD {k : Nat} {x : Str} {ps : List Str} {rd : Bool} {io : Option Nat} {F : AF} {p pos : Pos} {e : Expr} {es : List Expr} {args : List Arg} (d : Def X.prog X.w X.K X.mg X.base k x ps rd io F) (tk : Takes X W) (hgd : X.A.guards = some []) (hr : Room k X.A)
    (ha : MAs X W (e :: es) args) (hl : args.length = ps.length := by rfl) (hg : Gl X x := by rfl) (hdb : (x == ("__debug__" : Str)) = false := by decide) (he : starEach (e :: es) X.env = (false, eval e X.env) :: starEach es X.env := by rfl) (hpl : (backTo pos (starEach es X.env)).any (·.1) = false := by rfl) :
    ME X W (.Call (.Name x p) (e :: es) [] pos) rd (fCall F io args) := by
  obtain ⟨f, fd, h1, h2, h3, h4⟩ := d.ex
  exact me_call tk hgd h4 hr h1 h2 h3 ha hl hg hdb he hpl
end
end PV
/-! PV 10: operators, comparisons, subscripts, built-in functions -/
namespace PV
open PySem PySem.Spec PyProof.Rows L2
abbrev b1 (r : V → Hp → VK → Prop) : List V → Hp → VK → Prop := fun vs H Q => match vs with
  | [x] => r x H Q
  | _ => False
abbrev b2 (r : R2) : List V → Hp → VK → Prop := fun vs H Q => match vs with
  | [x, y] => r x y H Q
  | _ => False
section
variable {K : PySem.W.Frag} {H : Hp} {lab : Labs}
theorem Rdvs.one {d : D} {vs : List V} (h : Rdvs K H lab [d] vs) : ∃ v, vs = [v] ∧ Rdv K H lab d v := by
  cases h with
  | cons h t => cases t; exact ⟨_, rfl, h⟩
theorem Rdvs.two {d e : D} {vs : List V} (h : Rdvs K H lab [d, e] vs) : ∃ v u, vs = [v, u] ∧ Rdv K H lab d v ∧ Rdv K H lab e u := by
  cases h with
  | cons h t =>
    obtain ⟨u, rfl, r⟩ := t.one
    exact ⟨_, u, rfl, h, r⟩
theorem Rdvs.three {d e f : D} {vs : List V} (h : Rdvs K H lab [d, e, f] vs) : ∃ v u w, vs = [v, u, w] ∧ Rdv K H lab d v ∧ Rdv K H lab e u ∧ Rdv K H lab f w := by
  cases h with
  | cons h t =>
    obtain ⟨u, w, rfl, r, q⟩ := t.two
    exact ⟨_, u, w, rfl, h, r, q⟩
end
theorem lineBig {n : Nat} (h : n ≤ 16000000) : n ≤ sizeLine := by
  rw [sizeLine_eq]
  omega
/-! ### operators -/
section
variable {X : Cx} {W : WX}
theorem me_bin {op : Operator} {r : R2} {g : List D → Option D} {m : Bool} {a b : Expr} {A B : Arg} {pos : Pos} (ho : OpR X (binaryOp op) r) (hk : OpOk X.K g m (b2 r)) (ha : MA X W a A) (hb : MA X W b B) : ME X W (.BinOp a op b pos) m (fAp g [A, B]) :=
  pe_mono (pe_op ho ha hb) fun σ H Q t => ap_ok hk t
theorem me_un {op : UnaryOp} {r : V → Hp → VK → Prop} {g : List D → Option D} {m : Bool} {a : Expr} {A : Arg} {pos : Pos} (ho : UnR X (unaryOp op) r) (hk : OpOk X.K g m (b1 r)) (ha : MA X W a A) : ME X W (.UnaryOp op a pos) m (fAp g [A]) :=
  pe_mono (pe_un ho ha) fun σ H Q t => ap_ok hk t
theorem me_cmp {op : CmpOp} {r : R2} {g : List D → Option D} {m : Bool} {a b : Expr} {A B : Arg} {pos : Pos} (ho : OpR X (compareOp op) r) (hk : OpOk X.K g m (b2 r)) (ha : MA X W a A) (hb : MA X W b B) (hm : behindInMarks op b = false) : ME X W (.Compare a [op] [b] pos) m (fAp g [A, B]) :=
  pe_mono (pe_cmpR ho ha hb hm) fun σ H Q t => ap_ok hk t
theorem mt_cmp {op : CmpOp} {r : R2} {g : List D → Option D} {m : Bool} {a b : Expr} {A B : Arg} {pos : Pos} (ho : OpR X (compareOp op) r) (hk : OpOk X.K g m (b2 r)) (ha : MA X W a A) (hb : MA X W b B) (hm : behindInMarks op b = false) : MT X W (.Compare a [op] [b] pos) (fTb (fAp g [A, B])) :=
  pt_mono (pt_cmpR ho ha hb hm) fun σ H Q t => ap_ok hk (tTv_of (n := m) t)
end
/-- two ints under a condition -/
def g2i (C : Int → Int → Bool) (f : Int → Int → D) : List D → Option D
  | [.int i, .int j] => if C i j = true then some (f i j) else none
  | _ => none
theorem g2i_ok {K : PySem.W.Frag} {C : Int → Int → Bool} {C' : Int → Int → Prop} {f : Int → Int → D} {f' : Int → Int → V} {m : Bool} (hC : ∀ i j, C i j = true → C' i j) (hf : ∀ i j H lab, Frz K H lab (f i j) (f' i j)) (hm : ∀ i j, (f i j).mut = false) : OpOk K (g2i C f) m (b2 (rI C' f')) := fun H lab k ds vs d Q w fr rd hg q => by
  unfold g2i at hg
  split at hg
  · rename_i i j
    split at hg
    · rename_i hc
      cases hg
      obtain ⟨v, u, rfl, r1, r2⟩ := rd.two
      rw [r1.int_inv, r2.int_inv]
      exact ⟨i, j, rfl, rfl, hC i j hc, q _ _ (res_pure w fr (hf i j H lab) (.inr (hm i j)))⟩
    · cases hg
  · cases hg
theorem rI0_of {f : Int → Int → V} {x y : V} {H : Hp} {Q : VK} (h : rI (fun _ _ => True) f x y H Q) : rI0 f x y H Q := by
  obtain ⟨i, j, e1, e2, _, q⟩ := h
  exact ⟨i, j, e1, e2, q⟩
theorem OpR.imp {X : Cx} {f : Value → Value → Sem Value} {r r' : R2} (h : OpR X f r) (m : ∀ x y H Q, r' x y H Q → r x y H Q) : OpR X f r' := fun pins s σ H x y v u Q I r1 r2 q => h pins s σ H x y v u Q I r1 r2 (m _ _ _ _ q)
theorem OpOk.or {K : PySem.W.Frag} {g : List D → Option D} {m : Bool} {r r' : R2} (h : ∀ ds d, g ds = some d → (∃ g1, g1 ds = some d ∧ OpOk K g1 m (b2 r)) ∨ ∃ g1, g1 ds = some d ∧ OpOk K g1 m (b2 r')) : OpOk K g m (b2 fun x y H Q => r x y H Q ∨ r' x y H Q) := fun H lab k ds vs d Q w fr rd hg q => by
  rcases h ds d hg with ⟨g1, e, o⟩ | ⟨g1, e, o⟩
  · have := o H lab k ds vs d Q w fr rd e q
    match vs, this with
    | [x, y], t => exact .inl t
  · have := o H lab k ds vs d Q w fr rd e q
    match vs, this with
    | [x, y], t => exact .inr t
/-- x + y -/
def gAdd : List D → Option D
  | [.int i, .int j] => some (.int (i + j))
  | [.str a, .str b] => if a.length + b.length ≤ 16000000 then some (.str (a ++ b)) else none
  | [.lst a, .lst b] => if a.length + b.length ≤ 16000000 then some (.lst (a ++ b)) else none
  | [.tup a, .tup b] => if a.length + b.length ≤ 16000000 then some (.tup (a ++ b)) else none
  | _ => none
def rAddA (K : PySem.W.Frag) : R2 := fun x y H Q => rI0 (fun i j => .int (i + j)) x y H Q ∨ (∃ i j, x = .str i ∧ y = .str j ∧ i.length + j.length ≤ sizeLine ∧ Q (.str (i ++ j)) H) ∨ rCat x y H Q ∨ rCatA K x y H Q
theorem op_addA {X : Cx} : OpR X (binaryOp .Add) (rAddA X.K) := OpR.or op_add (OpR.or op_add_str (OpR.or op_cat op_catA))
theorem add_ok {K : PySem.W.Frag} : OpOk K gAdd true (b2 (rAddA K)) := fun H lab k ds vs d Q w fr rd hg q => by
  unfold gAdd at hg
  split at hg
  · rename_i i j
    cases hg
    obtain ⟨v, u, rfl, r1, r2⟩ := rd.two
    rw [r1.int_inv, r2.int_inv]
    exact .inl ⟨i, j, rfl, rfl, q _ _ (res_pure w fr (.int _) (.inr rfl))⟩
  · rename_i a b
    split at hg
    · rename_i hl
      cases hg
      obtain ⟨v, u, rfl, r1, r2⟩ := rd.two
      rw [r1.str_inv, r2.str_inv]
      exact .inr (.inl ⟨a, b, rfl, rfl, lineBig hl, q _ _ (res_pure w fr (.str _) (.inr rfl))⟩)
    · cases hg
  · rename_i a b
    split at hg
    · rename_i hl
      cases hg
      obtain ⟨v, u, rfl, r1, r2⟩ := rd.two
      obtain ⟨l, xs, rfl, h1, t1⟩ := r1.lst_inv
      obtain ⟨l', ys, rfl, h2, t2⟩ := r2.lst_inv
      exact .inr (.inr (.inl ⟨l, l', xs, ys, rfl, rfl, h1, h2, by rw [← t1.length, ← t2.length]; exact lineBig hl, fun p hp => q _ _ (res_obj w fr hp (.lst _ _) (t1.append t2))⟩))
    · cases hg
  · rename_i a b
    split at hg
    · rename_i hl
      cases hg
      obtain ⟨v, u, rfl, r1, r2⟩ := rd.two
      obtain ⟨l, xs, rfl, h1, t1⟩ := r1.tup_at
      obtain ⟨l', ys, rfl, h2, t2⟩ := r2.tup_at
      refine .inr (.inr (.inr ⟨l, l', xs, ys, rfl, rfl, .inl (.inl h1), .inl (.inl h2), by rw [← t1.length, ← t2.length]; exact lineBig hl, fun e => ?_, fun _ e => ?_, fun _ _ p hp => q _ _ (res_tup w fr hp (t1.append t2))⟩))
      · subst e
        cases t1
        exact q _ _ (res_pure w fr (.tup h2 t2) (.inr rfl))
      · subst e
        cases t2
        rw [List.append_nil] at q
        exact q _ _ (res_pure w fr (.tup h1 t1) (.inr rfl))
    · cases hg
  · cases hg
def gSub : List D → Option D := g2i (fun _ _ => true) fun i j => .int (i - j)
theorem sub_ok {K : PySem.W.Frag} : OpOk K gSub true (b2 (rI (fun _ _ => True) fun i j => .int (i - j))) := g2i_ok (fun _ _ _ => trivial) (fun _ _ _ _ => .int _) fun _ _ => rfl
theorem op_subA {X : Cx} : OpR X (binaryOp .Sub) (rI (fun _ _ => True) fun i j => .int (i - j)) := OpR.imp op_sub fun _ _ _ _ h => rI0_of h
/-- x * y -/
def gMul : List D → Option D
  | [.int i, .int j] => if (-(2 ^ 64) < i ∧ i < 2 ^ 64) ∨ (-(2 ^ 64) < j ∧ j < 2 ^ 64) then some (.int (i * j)) else none
  | [.lst a, .int k] => if -(2 ^ 62) ≤ k ∧ k < 2 ^ 62 ∧ a.length * k.toNat ≤ 16000000 then some (.lst (List.replicate k.toNat a).flatten) else none
  | _ => none
def rMulA : R2 := fun x y H Q => rI CMul (fun i j => .int (i * j)) x y H Q ∨ rRep x y H Q
theorem op_mulA {X : Cx} : OpR X (binaryOp .Mult) rMulA := OpR.or op_mul op_rep
theorem FrzL.rep {K : PySem.W.Frag} {H : Hp} {lab : Labs} {ds : List D} {vs : List V} (h : FrzL K H lab ds vs) : ∀ n : Nat, FrzL K H lab (List.replicate n ds).flatten (List.replicate n vs).flatten
  | 0 => .nil
  | n + 1 => by
    rw [List.replicate_succ, List.replicate_succ, List.flatten_cons, List.flatten_cons]
    exact h.append (h.rep n)
theorem mul_ok {K : PySem.W.Frag} : OpOk K gMul true (b2 rMulA) := fun H lab k ds vs d Q w fr rd hg q => by
  unfold gMul at hg
  split at hg
  · rename_i i j
    split at hg
    · rename_i hc
      cases hg
      obtain ⟨v, u, rfl, r1, r2⟩ := rd.two
      rw [r1.int_inv, r2.int_inv]
      exact .inl ⟨i, j, rfl, rfl, hc, q _ _ (res_pure w fr (.int _) (.inr rfl))⟩
    · cases hg
  · rename_i a k
    split at hg
    · rename_i hc
      cases hg
      obtain ⟨v, u, rfl, r1, r2⟩ := rd.two
      obtain ⟨l, xs, rfl, h1, t1⟩ := r1.lst_inv
      rw [r2.int_inv]
      exact .inr ⟨l, k, xs, rfl, rfl, h1, by omega, by omega, by rw [← t1.length]; exact lineBig hc.2.2, fun p hp => q _ _ (res_obj w fr hp (.lst _ _) (t1.rep _))⟩
    · cases hg
  · cases hg
def gFdiv : List D → Option D := g2i (fun _ j => decide (0 < j ∧ j < 1073741824)) fun i j => .int (i / j)
theorem fdiv_ok {K : PySem.W.Frag} : OpOk K gFdiv true (b2 (rI CDiv fun i j => .int (i / j))) := g2i_ok (fun _ _ h => by simpa [CDiv] using h) (fun _ _ _ _ => .int _) fun _ _ => rfl
def gMod : List D → Option D := g2i (fun _ j => decide (0 < j)) fun i j => .int (i % j)
theorem mod_ok {K : PySem.W.Frag} : OpOk K gMod true (b2 (rI (fun _ j => 0 < j) fun i j => .int (i % j))) := g2i_ok (fun _ _ h => of_decide_eq_true h) (fun _ _ _ _ => .int _) fun _ _ => rfl
def gPow : List D → Option D := g2i (fun i j => decide (0 ≤ j ∧ j ≤ 1000000 ∧ i.natAbs < 2 ^ 64)) fun i j => .int (i ^ j.toNat)
theorem pow_ok {K : PySem.W.Frag} : OpOk K gPow true (b2 (rI CPow fun i j => .int (i ^ j.toNat))) := g2i_ok (fun _ _ h => by simpa [CPow] using h) (fun _ _ _ _ => .int _) fun _ _ => rfl
def gNeg : List D → Option D
  | [.int i] => some (.int (-i))
  | _ => none
theorem neg_ok {K : PySem.W.Frag} : OpOk K gNeg true (b1 (rU fun i => .int (-i))) := fun H lab k ds vs d Q w fr rd hg q => by
  unfold gNeg at hg
  split at hg
  · rename_i i
    cases hg
    obtain ⟨v, rfl, r⟩ := rd.one
    rw [r.int_inv]
    exact ⟨i, rfl, q _ _ (res_pure w fr (.int _) (.inr rfl))⟩
  · cases hg
/-! ### comparisons -/
def gLt : List D → Option D := g2i (fun _ _ => true) fun i j => .bl (decide (i < j))
def gLe : List D → Option D := g2i (fun _ _ => true) fun i j => .bl (decide (i ≤ j))
def gGt : List D → Option D := g2i (fun _ _ => true) fun i j => .bl (decide (j < i))
def gGe : List D → Option D := g2i (fun _ _ => true) fun i j => .bl (decide (j ≤ i))
theorem cmp_ok {K : PySem.W.Frag} {p : Int → Int → Bool} : OpOk K (g2i (fun _ _ => true) fun i j => .bl (p i j)) true (b2 (rI (fun _ _ => True) fun i j => .bl (p i j))) := g2i_ok (fun _ _ _ => trivial) (fun _ _ _ _ => .bl _) fun _ _ => rfl
theorem op_ltA {X : Cx} : OpR X (compareOp .Lt) (rI (fun _ _ => True) fun i j => .bl (decide (i < j))) := OpR.imp op_lt fun _ _ _ _ h => rI0_of h
theorem op_leA {X : Cx} : OpR X (compareOp .LtE) (rI (fun _ _ => True) fun i j => .bl (decide (i ≤ j))) := OpR.imp op_le fun _ _ _ _ h => rI0_of h
theorem op_gtA {X : Cx} : OpR X (compareOp .Gt) (rI (fun _ _ => True) fun i j => .bl (decide (j < i))) := OpR.imp op_gt fun _ _ _ _ h => rI0_of h
theorem op_geA {X : Cx} : OpR X (compareOp .GtE) (rI (fun _ _ => True) fun i j => .bl (decide (j ≤ i))) := OpR.imp op_ge fun _ _ _ _ h => rI0_of h
theorem lt_ok {K : PySem.W.Frag} : OpOk K gLt true (b2 (rI (fun _ _ => True) fun i j => .bl (decide (i < j)))) := cmp_ok
theorem le_ok {K : PySem.W.Frag} : OpOk K gLe true (b2 (rI (fun _ _ => True) fun i j => .bl (decide (i ≤ j)))) := cmp_ok
theorem gt_ok {K : PySem.W.Frag} : OpOk K gGt true (b2 (rI (fun _ _ => True) fun i j => .bl (decide (j < i)))) := cmp_ok
theorem ge_ok {K : PySem.W.Frag} : OpOk K gGe true (b2 (rI (fun _ _ => True) fun i j => .bl (decide (j ≤ i)))) := cmp_ok
mutual
/-- as plain data -/
def D.py : D → Option PyData
  | .non => some .none
  | .bl b => some (.bool b)
  | .int i => some (.int i)
  | .str s => some (.str s)
  | .tup xs => (D.pys xs).map .tuple
  | .lst xs => (D.pys xs).map .list
  | .ro xs => (D.pys xs).map .list
  | _ => none
def D.pys : List D → Option (List PyData)
  | [] => some []
  | d :: r => match d.py, D.pys r with
    | some p, some ps => some (p :: ps)
    | _, _ => none
end
section
variable {K : PySem.W.Frag} {H : Hp} {lab : Labs}
mutual
theorem Frz.dp : ∀ {d : D} {v : V} {p : PyData}, Frz K H lab d v → d.py = some p → Dp K H v p
  | _, _, _, .non, e => by simp [D.py] at e; subst e; exact .non
  | _, _, _, .bl b, e => by simp [D.py] at e; subst e; exact .bl b
  | _, _, _, .int b, e => by simp [D.py] at e; subst e; exact .int b
  | _, _, _, .str b, e => by simp [D.py] at e; subst e; exact .str b
  | _, _, _, .ty b, e => by simp [D.py] at e
  | _, _, _, .tup h t, e => by
    simp only [D.py, Option.map_eq_some_iff] at e
    obtain ⟨ps, e, rfl⟩ := e
    exact .tup (.inl (.inl h)) (FrzL.dps t e)
  | _, _, _, .ro h t, e => by
    simp only [D.py, Option.map_eq_some_iff] at e
    obtain ⟨ps, e, rfl⟩ := e
    exact .lst h.sql (FrzL.dps t e)
  | _, _, _, .obj h l sh t, e => by
    cases sh with
    | lst =>
      simp only [D.py, Option.map_eq_some_iff] at e
      obtain ⟨ps, e, rfl⟩ := e
      exact .lst (.inl (.inl h)) (FrzL.dps t e)
    | dK => simp [D.py] at e
    | dT => simp [D.py] at e
    | set => simp [D.py] at e
theorem FrzL.dps : ∀ {ds : List D} {vs : List V} {ps : List PyData}, FrzL K H lab ds vs → D.pys ds = some ps → DpAll K H vs ps
  | _, _, _, .nil, e => by simp [D.pys] at e; subst e; exact .nil
  | d :: ds, _, _, .cons h t, e => by
    simp only [D.pys] at e
    cases h1 : d.py with
    | none => rw [h1] at e; cases e
    | some p =>
      cases h2 : D.pys ds with
      | none => rw [h1, h2] at e; cases e
      | some ps =>
        rw [h1, h2] at e
        cases e
        exact .cons (Frz.dp h h1) (FrzL.dps t h2)
end
theorem Rdv.dp {d : D} {v : V} {p : PyData} (h : Rdv K H lab d v) (e : d.py = some p) : Dp K H v p := by
  rcases h with h | ⟨l, a, o, ds, vs, rfl, ha, _, sh, t⟩
  · exact h.dp e
  · cases sh with
    | lst =>
      simp only [D.py, Option.map_eq_some_iff] at e
      obtain ⟨ps, e, rfl⟩ := e
      exact .lst (.inl (.inl ha)) (FrzL.dps t e)
    | dK => simp [D.py] at e
    | dT => simp [D.py] at e
    | set => simp [D.py] at e
end
/-- == as far as plain data goes -/
def eqP (d e : D) : Option Bool := match d.py, e.py with
  | some p, some q => if SeqAt.shaped p = true ∧ SeqAt.shaped q = true then some (PyData.eqv p q) else none
  | _, _ => none
def gEq : List D → Option D
  | [.str a, .str b] => some (.bl (decide (a = b)))
  | [d, e] => (eqP d e).map .bl
  | _ => none
def gNe : List D → Option D
  | [.str a, .str b] => some (.bl (!decide (a = b)))
  | [d, e] => (eqP d e).map fun b => .bl (!b)
  | _ => none
theorem eqP_inv {d e : D} {b : Bool} (h : eqP d e = some b) : ∃ p q, d.py = some p ∧ e.py = some q ∧ SeqAt.shaped p = true ∧ SeqAt.shaped q = true ∧ b = PyData.eqv p q := by
  unfold eqP at h
  split at h
  · rename_i p q h1 h2
    split at h
    · rename_i hs
      cases h
      exact ⟨p, q, h1, h2, hs.1, hs.2, rfl⟩
    · cases h
  · cases h
def rEqA (K : PySem.W.Frag) : R2 := fun x y H Q => rEq x y H Q ∨ rEqD K x y H Q
def rNeA (K : PySem.W.Frag) : R2 := fun x y H Q => rNe x y H Q ∨ rNeD K x y H Q
theorem op_eqA {X : Cx} (hu : X.A.units + 64 < cLine) : OpR X (compareOp .Eq) (rEqA X.K) := OpR.or op_eq (op_eqD hu)
theorem op_neA {X : Cx} (hu : X.A.units + 64 < cLine) : OpR X (compareOp .NotEq) (rNeA X.K) := OpR.or op_ne (op_neD hu)
theorem dec_vstr {a b : Str} : decide (V.str a = V.str b) = decide (a = b) := by
  by_cases h : a = b
  · subst h; simp
  · rw [decide_eq_false h, decide_eq_false (fun e => h (by cases e; rfl))]
theorem eq_ok {K : PySem.W.Frag} : OpOk K gEq true (b2 (rEqA K)) := fun H lab k ds vs d Q w fr rd hg q => by
  unfold gEq at hg
  split at hg
  · rename_i a b
    cases hg
    obtain ⟨v, u, rfl, r1, r2⟩ := rd.two
    rw [r1.str_inv, r2.str_inv]
    refine .inl ⟨rfl, ?_⟩
    rw [dec_vstr]
    exact q _ _ (res_pure w fr (.bl _) (.inr rfl))
  · simp only [Option.map_eq_some_iff] at hg
    obtain ⟨b, hb, rfl⟩ := hg
    obtain ⟨p1, p2, e1, e2, s1, s2, rfl⟩ := eqP_inv hb
    obtain ⟨v, u, rfl, r1, r2⟩ := rd.two
    exact .inr ⟨p1, p2, r1.dp e1, r2.dp e2, s1, s2, q _ _ (res_pure w fr (.bl _) (.inr rfl))⟩
  · cases hg
theorem ne_ok {K : PySem.W.Frag} : OpOk K gNe true (b2 (rNeA K)) := fun H lab k ds vs d Q w fr rd hg q => by
  unfold gNe at hg
  split at hg
  · rename_i a b
    cases hg
    obtain ⟨v, u, rfl, r1, r2⟩ := rd.two
    rw [r1.str_inv, r2.str_inv]
    refine .inl ⟨rfl, ?_⟩
    rw [dec_vstr]
    exact q _ _ (res_pure w fr (.bl _) (.inr rfl))
  · simp only [Option.map_eq_some_iff] at hg
    obtain ⟨b, hb, rfl⟩ := hg
    obtain ⟨p1, p2, e1, e2, s1, s2, rfl⟩ := eqP_inv hb
    obtain ⟨v, u, rfl, r1, r2⟩ := rd.two
    exact .inr ⟨p1, p2, r1.dp e1, r2.dp e2, s1, s2, q _ _ (res_pure w fr (.bl _) (.inr rfl))⟩
  · cases hg
/-- is None, is True -/
def gIs (c : D) : List D → Option D
  | [.non, .non] => some (.bl true)
  | [.bl a, .bl b] => some (.bl (decide (a = b)))
  | [d, .non] => match c with
    | .non => some (.bl false)
    | _ => none
  | _ => none
/-! ### subscripts -/
section
variable {K : PySem.W.Frag} {H : Hp} {lab : Labs}
theorem FrzL.atI {ds : List D} {vs : List V} {i : Int} {d : D} (h : FrzL K H lab ds vs) (e : L2.atI ds i = some d) : ∃ v, L2.atI vs i = some v ∧ Frz K H lab d v := by
  unfold L2.atI at e ⊢
  rw [← h.length]
  cases hx : ixN ds.length i with
  | none => rw [hx] at e; cases e
  | some j =>
    rw [hx] at e
    obtain ⟨v, hv, r⟩ := h.get e
    exact ⟨v, hv, r⟩
end
def gIdx : List D → Option D
  | [.str s, .int i] => if s.length ≤ 16000000 then (atI s.cps.toList i).map fun c => .str ⟨#[c]⟩ else none
  | [d, .int i] => d.items.bind fun ds => atI ds i
  | _ => none
theorem idx_ok {K : PySem.W.Frag} : OpOk K gIdx false (b2 (rIx K)) := fun H lab k ds vs d Q w fr rd hg q => by
  unfold gIdx at hg
  split at hg
  · rename_i s i
    split at hg
    · rename_i hl
      simp only [Option.map_eq_some_iff] at hg
      obtain ⟨c, hc, rfl⟩ := hg
      obtain ⟨v, u, rfl, r1, r2⟩ := rd.two
      rw [r1.str_inv, r2.int_inv]
      exact .inr (.inr ⟨s, i, c, rfl, rfl, lineBig hl, hc, q _ _ (res_pure w fr (.str _) (.inl rfl))⟩)
    · cases hg
  · rename_i d' i _
    simp only [Option.bind_eq_some_iff] at hg
    obtain ⟨es, he, hi⟩ := hg
    obtain ⟨v, u, rfl, r1, r2⟩ := rd.two
    rw [r2.int_inv]
    obtain ⟨a, vs, rfl, hs, t⟩ := r1.seq he
    obtain ⟨x, hx, rx⟩ := t.atI hi
    rcases hs with hs | hs
    · exact .inl ⟨a, vs, i, x, rfl, rfl, hs, hx, q _ _ (res_pure w fr rx (.inl rfl))⟩
    · exact .inr (.inl ⟨a, vs, i, x, rfl, rfl, hs, hx, q _ _ (res_pure w fr rx (.inl rfl))⟩)
  · cases hg
section
variable {X : Cx} {W : WX}
theorem me_idx {a b : Expr} {A B : Arg} {pos : Pos} (ha : MA X W a A) (hb : MA X W b B) (hs : PlainIx b) : ME X W (.Subscript a b pos) false (fAp gIdx [A, B]) :=
  pe_mono (pe_ix ix_seq ha hb hs) fun σ H Q t => ap_ok idx_ok t
/-- a part of a slice -/
def tOpt (K : PySem.W.Frag) (mg : Str → Option Value) (W : WX) : Option Arg → TO
  | none => tNoPart
  | some a => tPart (tArg K mg W a)
def optArgs : Option Arg → List Arg
  | none => []
  | some a => [a]
/-- the items of xs[lo:hi] -/
def cutD {α : Type} (xs : List α) (lo hi : Option Int) : List α := (xs.drop (HT.sIx xs.length 0 lo)).take (HT.sIx xs.length xs.length hi - HT.sIx xs.length 0 lo)
def cutOf (lo hi : Option Int) : D → Option D
  | .lst xs => some (.lst (cutD xs lo hi))
  | .ro xs => some (.lst (cutD xs lo hi))
  | .tup xs => some (.tup (cutD xs lo hi))
  | _ => none
def gSl (l h : Bool) : List D → Option D := fun ds => match l, h, ds with
  | false, false, [d] => cutOf none none d
  | true, false, [d, .int i] => cutOf (some i) none d
  | false, true, [d, .int j] => cutOf none (some j) d
  | true, true, [d, .int i, .int j] => cutOf (some i) (some j) d
  | _, _, _ => none
def rSlAll (K : PySem.W.Frag) : V → Option Int → Option Int → Hp → VK → Prop := fun x lo hi H Q => rSlL K x lo hi H Q ∨ rSlA K x lo hi H Q
theorem sl_all : SlR X (rSlAll X.K) := SlR.or sl_list sl_tupA
theorem cutD_whole {α : Type} {xs : List α} {lo hi : Option Int} (h : HT.sIx xs.length 0 lo = 0 ∧ HT.sIx xs.length xs.length hi = xs.length) : cutD xs lo hi = xs := by
  unfold cutD
  rw [h.1, h.2, List.drop_zero, Nat.sub_zero, List.take_length]
theorem cut_ok {K : PySem.W.Frag} {H : Hp} {lab : Labs} {k : Nat} {d e : D} {v : V} {lo hi : Option Int} {Q : VK} (w : Wf lab H) (fr : Free k lab) (r : Rdv K H lab d v) (h : cutOf lo hi d = some e) (q : ∀ v H', Res K H lab k true e v H' → Q v H') : rSlAll K v lo hi H Q := by
  have cut : ∀ {ds : List D} {vs : List V}, FrzL K H lab ds vs → FrzL K H lab (cutD ds lo hi) (cutV vs lo hi) := fun t => by
    unfold cutD cutV
    rw [← t.length]
    exact (t.drop _).take _
  cases d <;> simp [cutOf] at h
  · subst h
    obtain ⟨a, vs, rfl, hs, t⟩ := r.tup_at
    refine .inr ⟨a, vs, rfl, .inl (.inl hs), fun hw => ?_, fun _ p hp => q _ _ (res_tup w fr hp (cut t))⟩
    rw [← t.length] at hw
    have e := cutD_whole hw
    rw [e] at q
    exact q _ _ (res_pure w fr (.tup hs t) (.inr rfl))
  · subst h
    obtain ⟨a, vs, rfl, hs, t⟩ := r.lst_inv
    exact .inl ⟨a, vs, rfl, .inl (.inl hs), fun p hp => q _ _ (res_obj w fr hp (.lst _ _) (cut t))⟩
  · subst h
    obtain ⟨a, vs, rfl, hs, t⟩ := r.ro_inv
    exact .inl ⟨a, vs, rfl, hs, fun p hp => q _ _ (res_obj w fr hp (.lst _ _) (cut t))⟩
theorem me_slice0 {e : Expr} {A : Arg} {pos p2 : Pos} (he : MA X W e A) : ME X W (.Subscript e (.Slice none none none p2) pos) true (fAp (gSl false false) [A]) :=
  pe_mono (pe_slice sl_all he po_none po_none) fun σ H Q t => ap_ok (r := fun vs H Q => match vs with
    | [x] => rSlAll X.K x none none H Q
    | _ => False) (fun H lab k ds vs d Q w fr rd hg q => by
      match ds, rd, hg with
      | [d'], rd, hg =>
        obtain ⟨v, rfl, r⟩ := rd.one
        exact cut_ok w fr r hg q) t
theorem me_sliceH {e hi : Expr} {A B : Arg} {pos p2 : Pos} (he : MA X W e A) (hh : MA X W hi B) : ME X W (.Subscript e (.Slice none (some hi) none p2) pos) true (fAp (gSl false true) [A, B]) :=
  pe_mono (pe_slice sl_all he po_none (po_some hh)) fun σ H Q t => ap_ok (r := fun vs H Q => match vs with
    | [x, y] => ∃ i, y = .int i ∧ rSlAll X.K x none (some i) H Q
    | _ => False) (fun H lab k ds vs d Q w fr rd hg q => by
      match ds, rd, hg with
      | [d', .int i], rd, hg =>
        obtain ⟨v, u, rfl, r, r'⟩ := rd.two
        exact ⟨i, r'.int_inv, cut_ok w fr r hg q⟩) t
theorem me_sliceL {e lo : Expr} {A B : Arg} {pos p2 : Pos} (he : MA X W e A) (hl : MA X W lo B) : ME X W (.Subscript e (.Slice (some lo) none none p2) pos) true (fAp (gSl true false) [A, B]) :=
  pe_mono (pe_slice sl_all he (po_some hl) po_none) fun σ H Q t => ap_ok (r := fun vs H Q => match vs with
    | [x, y] => ∃ i, y = .int i ∧ rSlAll X.K x (some i) none H Q
    | _ => False) (fun H lab k ds vs d Q w fr rd hg q => by
      match ds, rd, hg with
      | [d', .int i], rd, hg =>
        obtain ⟨v, u, rfl, r, r'⟩ := rd.two
        exact ⟨i, r'.int_inv, cut_ok w fr r hg q⟩) t
/-- an expression that gives an int -/
def fInt (f : AE) : AE := fun s => match f s with
  | .ok (.int i) s1 => .ok (.int i) s1
  | .ex x s1 => .ex x s1
  | _ => .no
theorem tEv_int {f : AE} {n : Bool} {σ : L2.St} {H : Hp} {Q : VK} (t : tEv X.K X.mg W n (fInt f) σ H Q) : tEv X.K X.mg W n f σ H fun v H1 => (∃ i, v = .int i) ∧ Q v H1 := by
  obtain ⟨lab, sa, k, I, fr, t⟩ := t
  refine ⟨lab, sa, k, I, fr, ?_⟩
  simp only [fInt] at t
  cases hf : f sa with
  | ok d s =>
    rw [hf] at t
    cases d <;> first | exact t.elim | skip
    exact fun v H' lab' I' st f' r => ⟨⟨_, r.rdv.int_inv⟩, t v H' lab' I' st f' r⟩
  | ex x s => rw [hf] at t; exact t
  | no => rw [hf] at t; exact t
theorem me_slice2 {e lo hi : Expr} {A C : Arg} {n : Bool} {f : AE} {pos p2 : Pos} (he : MA X W e A) (hl : ME X W lo n f) (hh : MA X W hi C) : ME X W (.Subscript e (.Slice (some lo) (some hi) none p2) pos) true (fAp (gSl true true) [A, .ev n (fInt f), C]) :=
  pe_mono (pe_slice sl_all he (po_some hl) (po_some hh)) fun σ H Q t => by
    have h := ap_ok (r := fun vs H Q => match vs with
      | [x, y, z] => ∃ i j, y = .int i ∧ z = .int j ∧ rSlAll X.K x (some i) (some j) H Q
      | _ => False) (K := X.K) (mg := X.mg) (W := W) (fun H lab k ds vs d Q w fr rd hg q => by
        match ds, rd, hg with
        | [d', .int i, .int j], rd, hg =>
          obtain ⟨v, u, z, rfl, r, r', r''⟩ := rd.three
          exact ⟨i, j, r'.int_inv, r''.int_inv, cut_ok w fr r hg q⟩) t
    refine tArg_mono (a := A) h fun x H1 h => ?_
    have h2 : tEv X.K X.mg W n f σ H1 fun y H2 => (∃ i, y = .int i) ∧ _ := tEv_int h
    refine tEv_mono h2 fun y H2 h => ?_
    obtain ⟨⟨i, rfl⟩, h⟩ := h
    refine ⟨i, rfl, tArg_mono (a := C) h fun z H3 h => ?_⟩
    obtain ⟨i', j, e, rfl, h⟩ := h
    cases e
    exact ⟨j, rfl, h⟩
end
end PV
/-! PV 11: built-in functions, changes of lists, chains -/
namespace PV
open PySem PySem.Spec PyProof.Rows L2
section
variable {X : Cx} {W : WX}
/-- a built-in function of operands -/
theorem me_bi {id : String} {x : Str} {r : List V → Hp → VK → Prop} {g : List D → Option D} {m : Bool} {e : Expr} {es : List Expr} {args : List Arg} {p pos : Pos} (hk : OpOk X.K g m r) (hc : CallR X (.builtin id) r) (hm : X.mg x = none) (hv : bootBuiltins x = some (.builtin id)) (ha : MAs X W (e :: es) args) (hg : Gl X x := by rfl) (hn : x ≠ "__name__" := by decide) (hdb : (x == ("__debug__" : Str)) = false := by decide)
    (he : starEach (e :: es) X.env = (false, eval e X.env) :: starEach es X.env := by rfl) (hpl : (backTo pos (starEach es X.env)).any (·.1) = false := by rfl) : ME X W (.Call (.Name x p) (e :: es) [] pos) m (fAp g args) :=
  pe_mono (pe_callB hc hg hm hv ha hn hdb he hpl) fun σ H Q t => ap_ok hk t
theorem me_biT {T : String} {x : Str} {r : List V → Hp → VK → Prop} {g : List D → Option D} {m : Bool} {e : Expr} {es : List Expr} {args : List Arg} {p pos : Pos} (hk : OpOk X.K g m r) (hc : CallR X (.type T) r) (hm : X.mg x = none) (hv : bootBuiltins x = some (.type T)) (ha : MAs X W (e :: es) args) (hg : Gl X x := by rfl) (hn : x ≠ "__name__" := by decide) (hdb : (x == ("__debug__" : Str)) = false := by decide)
    (he : starEach (e :: es) X.env = (false, eval e X.env) :: starEach es X.env := by rfl) (hpl : (backTo pos (starEach es X.env)).any (·.1) = false := by rfl) : ME X W (.Call (.Name x p) (e :: es) [] pos) m (fAp g args) :=
  pe_mono (pe_callTy hc hg hm hv ha hn hdb he hpl) fun σ H Q t => ap_ok hk t
end
/-! ### len, abs, int -/
def gLen : List D → Option D
  | [.str s] => if s.length ≤ 16000000 then some (.int s.length) else none
  | [d] => d.items.map fun ds => .int ds.length
  | _ => none
theorem len_ok {K : PySem.W.Frag} : OpOk K gLen true (fun xs H Q => ∃ x n, xs = [x] ∧ LenV K x H n ∧ Q (.int n) H) := fun H lab k ds vs d Q w fr rd hg q => by
  unfold gLen at hg
  split at hg
  · rename_i s
    split at hg
    · rename_i hl
      cases hg
      obtain ⟨v, rfl, r⟩ := rd.one
      rw [r.str_inv]
      exact ⟨_, _, rfl, ⟨lineBig hl, rfl⟩, q _ _ (res_pure w fr (.int _) (.inr rfl))⟩
    · cases hg
  · rename_i d' _
    simp only [Option.map_eq_some_iff] at hg
    obtain ⟨es, he, rfl⟩ := hg
    obtain ⟨v, rfl, r⟩ := rd.one
    obtain ⟨a, vs, rfl, hs, t⟩ := r.seq he
    rcases hs with hs | hs
    · exact ⟨_, vs.length, rfl, .inl ⟨vs, hs, rfl⟩, q _ _ (res_pure w fr (by rw [t.length]; exact .int _) (.inr rfl))⟩
    · exact ⟨_, vs.length, rfl, .inr ⟨vs, hs, rfl⟩, q _ _ (res_pure w fr (by rw [t.length]; exact .int _) (.inr rfl))⟩
  · cases hg
def gAbs : List D → Option D
  | [.int i] => some (.int (if i < 0 then -i else i))
  | _ => none
theorem abs_ok {K : PySem.W.Frag} : OpOk K gAbs true (fun xs H Q => ∃ i, xs = [.int i] ∧ Q (.int (if i < 0 then -i else i)) H) := fun H lab k ds vs d Q w fr rd hg q => by
  unfold gAbs at hg
  split at hg
  · rename_i i
    cases hg
    obtain ⟨v, rfl, r⟩ := rd.one
    rw [r.int_inv]
    exact ⟨i, rfl, q _ _ (res_pure w fr (.int _) (.inr rfl))⟩
  · cases hg
def gInt : List D → Option D
  | [.int i] => some (.int i)
  | [.bl b] => some (.int (if b then 1 else 0))
  | _ => none
theorem int_ok {K : PySem.W.Frag} : OpOk K gInt true (fun xs H Q => (∃ i, xs = [.int i] ∧ Q (.int i) H) ∨ ∃ k, xs = [.bl k] ∧ Q (.int (if k then 1 else 0)) H) := fun H lab k ds vs d Q w fr rd hg q => by
  unfold gInt at hg
  split at hg
  · rename_i i
    cases hg
    obtain ⟨v, rfl, r⟩ := rd.one
    rw [r.int_inv]
    exact .inl ⟨i, rfl, q _ _ (res_pure w fr (.int _) (.inr rfl))⟩
  · rename_i b
    cases hg
    obtain ⟨v, rfl, r⟩ := rd.one
    rw [r.bl_inv]
    exact .inr ⟨b, rfl, q _ _ (res_pure w fr (.int _) (.inr rfl))⟩
  · cases hg
/-! ### lists of ints, of bools -/
def D.asInt : D → Option Int
  | .int i => some i
  | _ => none
def D.asBool : D → Option Bool
  | .bl i => some i
  | _ => none
def intsOf : List D → Option (List Int)
  | [] => some []
  | .int i :: r => (intsOf r).map (i :: ·)
  | _ :: _ => none
def boolsOf : List D → Option (List Bool)
  | [] => some []
  | .bl i :: r => (boolsOf r).map (i :: ·)
  | _ :: _ => none
theorem intsOf_map : ∀ ns : List Int, intsOf (ns.map D.int) = some ns
  | [] => rfl
  | i :: r => by simp [intsOf, intsOf_map r]
theorem boolsOf_map : ∀ ns : List Bool, boolsOf (ns.map D.bl) = some ns
  | [] => rfl
  | i :: r => by simp [boolsOf, boolsOf_map r]
section
variable {K : PySem.W.Frag} {H : Hp} {lab : Labs}
theorem FrzL.ints : ∀ {ds : List D} {vs : List V} {ns : List Int}, FrzL K H lab ds vs → intsOf ds = some ns → vs = ns.map V.int
  | _, _, _, .nil, e => by simp [intsOf] at e; subst e; rfl
  | d :: ds, _, ns, .cons h t, e => by
    cases d <;> simp only [intsOf] at e <;> try cases e
    simp only [Option.map_eq_some_iff] at e
    obtain ⟨ms, e, rfl⟩ := e
    rw [h.int_inv, t.ints e]
    rfl
theorem FrzL.bools : ∀ {ds : List D} {vs : List V} {ns : List Bool}, FrzL K H lab ds vs → boolsOf ds = some ns → vs = ns.map V.bl
  | _, _, _, .nil, e => by simp [boolsOf] at e; subst e; rfl
  | d :: ds, _, ns, .cons h t, e => by
    cases d <;> simp only [boolsOf] at e <;> try cases e
    simp only [Option.map_eq_some_iff] at e
    obtain ⟨ms, e, rfl⟩ := e
    rw [h.bl_inv, t.bools e]
    rfl
end
def gSum : List D → Option D
  | [d] => d.items?.bind fun ds => (intsOf ds).map fun ns => .int ns.sum
  | _ => none
theorem sum_ok {K : PySem.W.Frag} : OpOk K gSum true (rSum K) := fun H lab k ds vs d Q w fr rd hg q => by
  unfold gSum at hg
  split at hg
  · simp only [Option.bind_eq_some_iff, Option.map_eq_some_iff] at hg
    obtain ⟨es, he, ns, hn, rfl⟩ := hg
    obtain ⟨v, rfl, r⟩ := rd.one
    obtain ⟨a, vs, rfl, hs, t⟩ := r.seqL he
    rw [t.ints hn] at hs
    exact ⟨a, ns, rfl, hs, q _ _ (res_pure w fr (.int _) (.inr rfl))⟩
  · cases hg
def gAll : List D → Option D
  | [d] => d.items?.bind fun ds => (boolsOf ds).map fun bs => .bl (bs.all id)
  | _ => none
theorem all_ok {K : PySem.W.Frag} : OpOk K gAll true (rAll K) := fun H lab k ds vs d Q w fr rd hg q => by
  unfold gAll at hg
  split at hg
  · simp only [Option.bind_eq_some_iff, Option.map_eq_some_iff] at hg
    obtain ⟨es, he, ns, hn, rfl⟩ := hg
    obtain ⟨v, rfl, r⟩ := rd.one
    obtain ⟨a, vs, rfl, hs, t⟩ := r.seqL he
    rw [t.bools hn] at hs
    exact ⟨a, ns, rfl, hs, q _ _ (res_pure w fr (.bl _) (.inr rfl))⟩
  · cases hg
def gAny : List D → Option D
  | [d] => d.items?.bind fun ds => (boolsOf ds).map fun bs => .bl (bs.any id)
  | _ => none
theorem any_ok {K : PySem.W.Frag} : OpOk K gAny true (rAny K) := fun H lab k ds vs d Q w fr rd hg q => by
  unfold gAny at hg
  split at hg
  · simp only [Option.bind_eq_some_iff, Option.map_eq_some_iff] at hg
    obtain ⟨es, he, ns, hn, rfl⟩ := hg
    obtain ⟨v, rfl, r⟩ := rd.one
    obtain ⟨a, vs, rfl, hs, t⟩ := r.seqL he
    rw [t.bools hn] at hs
    exact ⟨a, ns, rfl, hs, q _ _ (res_pure w fr (.bl _) (.inr rfl))⟩
  · cases hg
/-- the greatest, the least of ints -/
def maxI : List Int → Option Int
  | [] => none
  | a :: r => some (r.foldl (fun m x => if x > m then x else m) a)
def minI : List Int → Option Int
  | [] => none
  | a :: r => some (r.foldl (fun m x => if x < m then x else m) a)
theorem maxI_fold : ∀ (r : List Int) (a : Int), (∀ x ∈ a :: r, x ≤ r.foldl (fun m x => if x > m then x else m) a) ∧ r.foldl (fun m x => if x > m then x else m) a ∈ a :: r
  | [], a => by simp
  | b :: r, a => by
    have h := maxI_fold r (if b > a then b else a)
    simp only [List.foldl_cons]
    refine ⟨fun x hx => ?_, ?_⟩
    · simp only [List.mem_cons] at hx
      have h1 := h.1 _ (List.mem_cons_self ..)
      rcases hx with rfl | rfl | hx
      · revert h1
        generalize List.foldl _ _ r = F
        intro h1
        split at h1 <;> omega
      · revert h1
        generalize List.foldl _ _ r = F
        intro h1
        split at h1 <;> omega
      · exact h.1 x (List.mem_cons_of_mem _ hx)
    · have h2 := h.2
      simp only [List.mem_cons] at h2 ⊢
      rcases h2 with h2 | h2
      · rw [h2]
        split
        · exact .inr (.inl rfl)
        · exact .inl rfl
      · exact .inr (.inr h2)
theorem minI_fold : ∀ (r : List Int) (a : Int), (∀ x ∈ a :: r, r.foldl (fun m x => if x < m then x else m) a ≤ x) ∧ r.foldl (fun m x => if x < m then x else m) a ∈ a :: r
  | [], a => by simp
  | b :: r, a => by
    have h := minI_fold r (if b < a then b else a)
    simp only [List.foldl_cons]
    refine ⟨fun x hx => ?_, ?_⟩
    · simp only [List.mem_cons] at hx
      have h1 := h.1 _ (List.mem_cons_self ..)
      rcases hx with rfl | rfl | hx
      · revert h1
        generalize List.foldl _ _ r = F
        intro h1
        split at h1 <;> omega
      · revert h1
        generalize List.foldl _ _ r = F
        intro h1
        split at h1 <;> omega
      · exact h.1 x (List.mem_cons_of_mem _ hx)
    · have h2 := h.2
      simp only [List.mem_cons] at h2 ⊢
      rcases h2 with h2 | h2
      · rw [h2]
        split
        · exact .inr (.inl rfl)
        · exact .inl rfl
      · exact .inr (.inr h2)
theorem maxI_spec {ns : List Int} {m : Int} (h : maxI ns = some m) : m ∈ ns ∧ ∀ x ∈ ns, x ≤ m := by
  cases ns with
  | nil => cases h
  | cons a r =>
    simp only [maxI] at h
    cases h
    exact ⟨(maxI_fold r a).2, (maxI_fold r a).1⟩
theorem minI_spec {ns : List Int} {m : Int} (h : minI ns = some m) : m ∈ ns ∧ ∀ x ∈ ns, m ≤ x := by
  cases ns with
  | nil => cases h
  | cons a r =>
    simp only [minI] at h
    cases h
    exact ⟨(minI_fold r a).2, (minI_fold r a).1⟩
def gMax : List D → Option D
  | [.int i, .int j] => some (.int (if j > i then j else i))
  | [d] => d.items?.bind fun ds => (intsOf ds).bind fun ns => (maxI ns).map .int
  | _ => none
def gMin : List D → Option D
  | [.int i, .int j] => some (.int (if j < i then j else i))
  | [d] => d.items?.bind fun ds => (intsOf ds).bind fun ns => (minI ns).map .int
  | _ => none
theorem max_ok {K : PySem.W.Frag} : OpOk K gMax true (fun xs H Q => (∃ i j, xs = [.int i, .int j] ∧ Q (.int (if j > i then j else i)) H) ∨ rMax K xs H Q) := fun H lab k ds vs d Q w fr rd hg q => by
  unfold gMax at hg
  split at hg
  · rename_i i j
    cases hg
    obtain ⟨v, u, rfl, r, r'⟩ := rd.two
    rw [r.int_inv, r'.int_inv]
    exact .inl ⟨i, j, rfl, q _ _ (res_pure w fr (.int _) (.inr rfl))⟩
  · simp only [Option.bind_eq_some_iff, Option.map_eq_some_iff] at hg
    obtain ⟨es, he, ns, hn, m, hm, rfl⟩ := hg
    obtain ⟨v, rfl, r⟩ := rd.one
    obtain ⟨a, vs, rfl, hs, t⟩ := r.seqL he
    rw [t.ints hn] at hs
    obtain ⟨h1, h2⟩ := maxI_spec hm
    refine .inr ⟨a, ns, rfl, hs, List.length_pos_of_mem h1, fun m' h3 h4 => ?_⟩
    rw [show m' = m from Int.le_antisymm (h2 _ h3) (h4 _ h1)]
    exact q _ _ (res_pure w fr (.int _) (.inr rfl))
  · cases hg
theorem min_ok {K : PySem.W.Frag} : OpOk K gMin true (fun xs H Q => (∃ i j, xs = [.int i, .int j] ∧ Q (.int (if j < i then j else i)) H) ∨ rMin K xs H Q) := fun H lab k ds vs d Q w fr rd hg q => by
  unfold gMin at hg
  split at hg
  · rename_i i j
    cases hg
    obtain ⟨v, u, rfl, r, r'⟩ := rd.two
    rw [r.int_inv, r'.int_inv]
    exact .inl ⟨i, j, rfl, q _ _ (res_pure w fr (.int _) (.inr rfl))⟩
  · simp only [Option.bind_eq_some_iff, Option.map_eq_some_iff] at hg
    obtain ⟨es, he, ns, hn, m, hm, rfl⟩ := hg
    obtain ⟨v, rfl, r⟩ := rd.one
    obtain ⟨a, vs, rfl, hs, t⟩ := r.seqL he
    rw [t.ints hn] at hs
    obtain ⟨h1, h2⟩ := minI_spec hm
    refine .inr ⟨a, ns, rfl, hs, List.length_pos_of_mem h1, fun m' h3 h4 => ?_⟩
    rw [show m' = m from Int.le_antisymm (h4 _ h1) (h2 _ h3)]
    exact q _ _ (res_pure w fr (.int _) (.inr rfl))
  · cases hg
theorem cr_maxA {X : Cx} (hc : X.calm = true) : CallR X (.builtin "max") (fun xs H Q => (∃ i j, xs = [.int i, .int j] ∧ Q (.int (if j > i then j else i)) H) ∨ rMax X.K xs H Q) := CallR.or (call_max2 hc) (cr_max hc)
theorem cr_minA {X : Cx} (hc : X.calm = true) : CallR X (.builtin "min") (fun xs H Q => (∃ i j, xs = [.int i, .int j] ∧ Q (.int (if j < i then j else i)) H) ∨ rMin X.K xs H Q) := CallR.or (call_min2 hc) (cr_min hc)
/-! ### list(x), tuple(x) -/
def gList : List D → Option D
  | [d] => d.items.map .lst
  | _ => none
def gTuple : List D → Option D
  | [d] => d.items.map .tup
  | _ => none
theorem list_ok {K : PySem.W.Frag} : OpOk K gList true (fun xs H Q => ∃ p ys, xs = [.ref p] ∧ (SqL K H p ys ∨ SqT K H p ys) ∧ ∀ l, H l = none → Q (.ref l) (upd H l (.lst ys))) := fun H lab k ds vs d Q w fr rd hg q => by
  unfold gList at hg
  split at hg
  · simp only [Option.map_eq_some_iff] at hg
    obtain ⟨es, he, rfl⟩ := hg
    obtain ⟨v, rfl, r⟩ := rd.one
    obtain ⟨a, vs, rfl, hs, t⟩ := r.seq he
    exact ⟨a, vs, rfl, hs, fun l hl => q _ _ (res_obj w fr hl (.lst _ _) t)⟩
  · cases hg
theorem tuple_ok {K : PySem.W.Frag} : OpOk K gTuple true (fun xs H Q => ∃ p ys, xs = [.ref p] ∧ ((SqL K H p ys ∧ ∀ l, H l = none → Q (.ref l) (upd H l (.tup ys))) ∨ (SqT K H p ys ∧ Q (.ref p) H))) := fun H lab k ds vs d Q w fr rd hg q => by
  unfold gTuple at hg
  split at hg
  · simp only [Option.map_eq_some_iff] at hg
    obtain ⟨es, he, rfl⟩ := hg
    obtain ⟨v, rfl, r⟩ := rd.one
    rename_i d'
    cases d' <;> simp [D.items] at he
    · subst he
      obtain ⟨a, vs, rfl, hs, t⟩ := r.tup_at
      exact ⟨a, vs, rfl, .inr ⟨.inl (.inl hs), q _ _ (res_pure w fr (.tup hs t) (.inr rfl))⟩⟩
    · subst he
      obtain ⟨a, vs, rfl, hs, t⟩ := r.lst_inv
      exact ⟨a, vs, rfl, .inl ⟨.inl (.inl hs), fun l hl => q _ _ (res_tup w fr hl t)⟩⟩
    · subst he
      obtain ⟨a, vs, rfl, hs, t⟩ := r.ro_inv
      exact ⟨a, vs, rfl, .inl ⟨hs, fun l hl => q _ _ (res_tup w fr hl t)⟩⟩
  · cases hg
/-! ### the types of values -/
inductive Ty8 where
  | int | bool | str | tuple | list | dict
def Ty8.nm : Ty8 → String
  | .int => "int" | .bool => "bool" | .str => "str" | .tuple => "tuple" | .list => "list" | .dict => "dict"
def D.tyName : D → Option String
  | .non => some "NoneType" | .bl _ => some "bool" | .int _ => some "int" | .str _ => some "str" | .tup _ => some "tuple" | .lst _ => some "list" | .dic _ _ => some "dict"
  | _ => none
def isTy : Ty8 → D → Option Bool
  | .int, .int _ => some true
  | .int, .bl _ => some true
  | .bool, .bl _ => some true
  | .str, .str _ => some true
  | .tuple, .tup _ => some true
  | .list, .lst _ => some true
  | .dict, .dic _ _ => some true
  | _, d => d.tyName.map fun _ => false
theorem isTy_kit (T : Ty8) (d : D) (b : Bool) (n : String) (h : isTy T d = some b) (hn : d.tyName = some n) : kitB n T.nm = some b := by
  cases T <;> cases d <;> simp only [isTy, D.tyName, Option.some.injEq, Option.map_some, reduceCtorEq] at h hn <;> (try subst hn) <;> (try subst h) <;> first | decide +kernel | cases h | cases hn
def gIs8 (T : Ty8) : List D → Option D
  | [d] => (isTy T d).map .bl
  | _ => none
section
variable {K : PySem.W.Frag} {H : Hp} {lab : Labs}
theorem sqT_tyx {a : Addr} {vs : List V} (h : SqT K H a vs) : TyX K H (.ref a) (.type "tuple") := by
  rcases h with (h | ⟨o, h⟩) | ⟨o, its, n, h, hc, _⟩
  · exact .base (.tup h)
  · exact .fTuple h
  · exact .kTuple h hc
theorem Rdv.tyx {d : D} {v : V} {n : String} (h : Rdv K H lab d v) (e : d.tyName = some n) : TyX K H v (.type n) := by
  cases d <;> simp [D.tyName] at e <;> subst e
  · rw [h.non_inv]; exact .base .non
  · rw [h.bl_inv]; exact .base (.bl _)
  · rw [h.int_inv]; exact .base (.int _)
  · rw [h.str_inv]; exact .base (.str _)
  · obtain ⟨a, vs, rfl, hs, _⟩ := h.tup_inv
    exact sqT_tyx hs
  · obtain ⟨a, vs, rfl, hs, _⟩ := h.lst_inv
    exact .base (.lst hs)
  · have go : ∀ {a : Addr} {o : HO} {b : Bool} {kvs : List (D × D)} {ds : List D} {vs : List V}, H a = some o → Sh o (.dic b kvs) ds vs → TyX K H (.ref a) (.type "dict") := fun ha sh => by
      generalize hd : D.dic _ _ = d at sh
      cases sh with
      | lst => cases hd
      | dK => exact .base (.dK ha)
      | dT => exact .base (.dT ha)
      | set => cases hd
    rcases h with h | ⟨_, a, o, ds, vs, rfl, ha, _, sh, t⟩
    · cases h with
      | obj ha _ sh _ => exact go ha sh
    · exact go ha sh
end
theorem isTy_ty {T : Ty8} {d : D} {b : Bool} (h : isTy T d = some b) : ∃ n, d.tyName = some n := by
  cases T <;> cases d <;> first | exact ⟨_, rfl⟩ | (simp [isTy, D.tyName] at h)
section
variable {X : Cx} {W : WX}
/-- isinstance(x, T) -/
theorem me_isi {T : Ty8} {e : Expr} {A : Arg} {y : Str} {p p2 pos : Pos} (ha : MA X W e A) (hm : X.mg "isinstance" = none) (hy : X.mg y = none) (hvy : bootBuiltins y = some (.type T.nm)) (hg : Gl X "isinstance" := by rfl) (hgy : Gl X y := by rfl) (hny : y ≠ "__name__" := by decide) (hdy : (y == ("__debug__" : Str)) = false := by decide)
    (he : starEach [e, .Name y p2] X.env = (false, eval e X.env) :: starEach [.Name y p2] X.env := by rfl) (he2 : starEach [.Name y p2] X.env = (false, eval (.Name y p2) X.env) :: starEach [] X.env := by rfl) (hpl : (backTo pos (starEach [.Name y p2] X.env)).any (·.1) = false := by rfl) :
    ME X W (.Call (.Name "isinstance" p) [e, .Name y p2] [] pos) true (fAp (gIs8 T) [A]) :=
  pe_mono (pe_callB call_isi hg hm (by decide +kernel) (pa_cons ha (pa_cons (pe_bltn (v := .ty T.nm) hgy hy hvy rfl hny hdy) pa_nil he2) he) (by decide) (by decide) he hpl) fun σ H Q t =>
    ap_ok (r := fun vs H Q => match vs with
      | [x] => rIsi X.K [x, .ty T.nm] H Q
      | _ => False) (fun H lab k ds vs d Q w fr rd hg q => by
      unfold gIs8 at hg
      split at hg
      · rename_i d'
        simp only [Option.map_eq_some_iff] at hg
        obtain ⟨b, hb, rfl⟩ := hg
        obtain ⟨v, rfl, r⟩ := rd.one
        obtain ⟨n, hn⟩ := isTy_ty hb
        exact ⟨v, .ty T.nm, _, _, b, rfl, .ty _, r.tyx hn, kit_ty (isTy_kit T d' b n hb hn), q _ _ (res_pure w fr (.bl _) (.inr rfl))⟩
      · cases hg) t
end
end PV
/-! PV 12: repr, ranges as lists, chains, is, in, changes of an owned list, constants of the module -/
namespace PV
open PySem PySem.Spec PyProof.Rows L2
/-! ### repr -/
def rReprD (K : PySem.W.Frag) : List V → Hp → VK → Prop := fun xs H Q => ∃ x p, xs = [x] ∧ Dp K H x p ∧ p.showable = true ∧ p.hasDict = false ∧ p.depth ≤ 64 ∧ p.shown.length ≤ 16000000 ∧ Q (.str p.shown) H
theorem call_reprD {X : Cx} (hgd : X.A.guards = some []) (hu : X.A.units + 65 < cLine) : CallR X (.builtin "repr") (rReprD X.K) := by
  intro pins s σ H xs us Q I rel h
  obtain ⟨x, p, rfl, dp, hs, hd, hdep, hl, q⟩ := h
  obtain ⟨u, rfl, ru⟩ := vals1 rel
  have big : ∀ (a : Addr), u = .ref a → wpAny (model X.prog X.w) X.A (call (.builtin "repr") [u]) (EP X pins σ Q) X.xe s := fun a e => by
    obtain ⟨as, rd⟩ := Dp.reads I p x u dp ru
    subst e
    refine repr_of_reads' rd hs (fun z => by rw [hd] at z; cases z) hgd (by omega) (fun _ _ e => e) (fun h' w tk hk => ?_) (lineBig hl)
    exact ⟨.str p.shown, H, I.kept hk, ⟨_, rfl⟩, q⟩
  cases dp with
  | non =>
    cases ru
    exact PySem.P.repr_of_none ⟨.str _, H, I.tok _, ⟨_, rfl⟩, q⟩
  | bl b =>
    cases ru
    refine PySem.P.repr_of_bool ⟨.str _, H, I.tok _, ⟨_, rfl⟩, ?_⟩
    have e : (PyData.bool b).shown = if b = true then Str.ofString "True" else Str.ofString "False" := by cases b <;> simp [PyData.shown]
    rw [e] at q
    exact q
  | int i =>
    obtain ⟨t, rfl⟩ := ru
    have hz : i.natAbs.log2 < 1920 := by simpa [PyData.showable] using hs
    refine PySem.P.repr_of_int hz ⟨.str _, H, I.tok _, ⟨_, rfl⟩, ?_⟩
    simpa [PyData.shown] using q
  | str z =>
    obtain ⟨t, rfl⟩ := ru
    have e : (PyData.str z).shown = reprText z := by simp [PyData.shown]
    rw [e] at q hl
    exact PySem.P.repr_of_str ⟨.str _, H, I.tok _, ⟨_, rfl⟩, q⟩ (lineBig hl)
  | lst h t =>
    cases ru
    exact big _ rfl
  | tup h t =>
    cases ru
    exact big _ rfl
def reprP (d : D) : Option Str := match d.py with
  | some p => if p.showable = true ∧ p.hasDict = false ∧ p.depth ≤ 64 ∧ p.shown.length ≤ 16000000 then some p.shown else none
  | none => none
def gRepr : List D → Option D
  | [d] => (reprP d).map .str
  | _ => none
theorem repr_ok {K : PySem.W.Frag} : OpOk K gRepr true (rReprD K) := fun H lab k ds vs d Q w fr rd hg q => by
  unfold gRepr at hg
  split at hg
  · rename_i d'
    simp only [Option.map_eq_some_iff] at hg
    obtain ⟨s, hs, rfl⟩ := hg
    unfold reprP at hs
    split at hs
    · rename_i p hp
      split at hs
      · rename_i hc
        cases hs
        obtain ⟨v, rfl, r⟩ := rd.one
        exact ⟨v, p, rfl, r.dp hp, hc.1, hc.2.1, hc.2.2.1, hc.2.2.2, q _ _ (res_pure w fr (.str _) (.inr rfl))⟩
      · cases hs
    · cases hs
  · cases hg
/-! ### list(range(..)) -/
def rangeD (a b : Int) : List D := (List.range (b - a).toNat).map fun i => .int (a + (i : Nat))
def rgOk (a b : Int) : Bool := decide (-(2 ^ 62) ≤ a ∧ a < 2 ^ 62 ∧ -(2 ^ 62) ≤ b ∧ b < 2 ^ 62 ∧ (b - a).toNat ≤ 16000000)
def gLRg1 : List D → Option D
  | [.int b] => if rgOk 0 b then some (.lst (rangeD 0 b)) else none
  | _ => none
def gLRg2 : List D → Option D
  | [.int a, .int b] => if rgOk a b then some (.lst (rangeD a b)) else none
  | _ => none
def gTRg1 : List D → Option D
  | [.int b] => if rgOk 0 b then some (.tup (rangeD 0 b)) else none
  | _ => none
def gTRg2 : List D → Option D
  | [.int a, .int b] => if rgOk a b then some (.tup (rangeD a b)) else none
  | _ => none
theorem rangeD_frz {K : PySem.W.Frag} {H : Hp} {lab : Labs} (a b : Int) : FrzL K H lab (rangeD a b) (rgV a b) := by
  unfold rangeD rgV
  generalize List.range (b - a).toNat = l
  induction l with
  | nil => exact .nil
  | cons i r ih => exact .cons (.int _) ih
theorem rgOk_ok {a b : Int} (h : rgOk a b = true) : RgOk a b := by
  have h := of_decide_eq_true h
  unfold RgOk
  omega
section
variable {X : Cx} {W : WX}
theorem me_lrg1 {a : Expr} {A : Arg} {p p2 pos pos2 : Pos} (hc : X.calm = true) (hl : X.mg "list" = none) (hm : X.mg "range" = none) (ha : MA X W a A) (hgl : Gl X "list" := by rfl) (hg : Gl X "range" := by rfl) (na : starEach [a] X.env = (false, eval a X.env) :: starEach [] X.env := by rfl)
    (na2 : starEach [.Call (.Name "range" p2) [a] [] pos2] X.env = (false, eval (.Call (.Name "range" p2) [a] [] pos2) X.env) :: starEach [] X.env := by rfl) : ME X W (.Call (.Name "list" p) [.Call (.Name "range" p2) [a] [] pos2] [] pos) true (fAp gLRg1 [A]) :=
  pe_mono (pe_listRg hc hgl hl (prg_1 hg hm ha na) na2) fun σ H Q t => ap_ok (r := fun vs H Q => match vs with
    | [x] => ∃ n, x = .int n ∧ RgOk 0 n ∧ ∀ q, H q = none → Q (.ref q) (upd H q (.lst (rgV 0 n)))
    | _ => False) (fun H lab k ds vs d Q w fr rd hg q => by
      unfold gLRg1 at hg
      split at hg
      · rename_i b
        split at hg
        · rename_i hb
          cases hg
          obtain ⟨v, rfl, r⟩ := rd.one
          exact ⟨b, r.int_inv, rgOk_ok hb, fun p hp => q _ _ (res_obj w fr hp (.lst _ _) (rangeD_frz 0 b))⟩
        · cases hg
      · cases hg) t
theorem me_lrg2 {a b : Expr} {A B : Arg} {p p2 pos pos2 : Pos} (hc : X.calm = true) (hl : X.mg "list" = none) (hm : X.mg "range" = none) (ha : MA X W a A) (hb : MA X W b B) (hgl : Gl X "list" := by rfl) (hg : Gl X "range" := by rfl) (na : starEach [a, b] X.env = (false, eval a X.env) :: starEach [b] X.env := by rfl) (nb : starEach [b] X.env = (false, eval b X.env) :: starEach [] X.env := by rfl) (hp : (backTo pos2 (starEach [b] X.env)).any (·.1) = false := by rfl)
    (na2 : starEach [.Call (.Name "range" p2) [a, b] [] pos2] X.env = (false, eval (.Call (.Name "range" p2) [a, b] [] pos2) X.env) :: starEach [] X.env := by rfl) : ME X W (.Call (.Name "list" p) [.Call (.Name "range" p2) [a, b] [] pos2] [] pos) true (fAp gLRg2 [A, B]) :=
  pe_mono (pe_listRg hc hgl hl (prg_2 hg hm ha hb na nb hp) na2) fun σ H Q t => ap_ok (r := fun vs H Q => match vs with
    | [x, y] => ∃ n m, x = .int n ∧ y = .int m ∧ RgOk n m ∧ ∀ q, H q = none → Q (.ref q) (upd H q (.lst (rgV n m)))
    | _ => False) (fun H lab k ds vs d Q w fr rd hg q => by
      unfold gLRg2 at hg
      split at hg
      · rename_i a b
        split at hg
        · rename_i hb
          cases hg
          obtain ⟨v, u, rfl, r, r'⟩ := rd.two
          exact ⟨a, b, r.int_inv, r'.int_inv, rgOk_ok hb, fun p hp => q _ _ (res_obj w fr hp (.lst _ _) (rangeD_frz a b))⟩
        · cases hg
      · cases hg) t
theorem me_trg1 {a : Expr} {A : Arg} {p p2 pos pos2 : Pos} (hc : X.calm = true) (hl : X.mg "tuple" = none) (hm : X.mg "range" = none) (ha : MA X W a A) (hgl : Gl X "tuple" := by rfl) (hg : Gl X "range" := by rfl) (na : starEach [a] X.env = (false, eval a X.env) :: starEach [] X.env := by rfl)
    (na2 : starEach [.Call (.Name "range" p2) [a] [] pos2] X.env = (false, eval (.Call (.Name "range" p2) [a] [] pos2) X.env) :: starEach [] X.env := by rfl) : ME X W (.Call (.Name "tuple" p) [.Call (.Name "range" p2) [a] [] pos2] [] pos) true (fAp gTRg1 [A]) :=
  pe_mono (pe_tupRg hc hgl hl (prg_1 hg hm ha na) na2) fun σ H Q t => ap_ok (r := fun vs H Q => match vs with
    | [x] => ∃ n, x = .int n ∧ RgOk 0 n ∧ ∀ q, H q = none → Q (.ref q) (upd H q (.tup (rgV 0 n)))
    | _ => False) (fun H lab k ds vs d Q w fr rd hg q => by
      unfold gTRg1 at hg
      split at hg
      · rename_i b
        split at hg
        · rename_i hb
          cases hg
          obtain ⟨v, rfl, r⟩ := rd.one
          exact ⟨b, r.int_inv, rgOk_ok hb, fun p hp => q _ _ (res_tup w fr hp (rangeD_frz 0 b))⟩
        · cases hg
      · cases hg) t
end
/-! ### a chain of two comparisons -/
def fChain (g1 g2 : List D → Option D) (A B C : Arg) : AE := fun sa => match evArgs [A, B] sa with
  | .ok [x, y] s => (match fetchAll s [x, y] with
    | some ds => (match g1 ds with
      | some (.bl true) => (match evArgs [C] s with
        | .ok [z] s2 => (match fetchAll s2 [y, z] with
          | some es => (match g2 es with
            | some d => .ok d s2
            | none => .no)
          | none => .no)
        | .ex x s2 => .ex x s2
        | _ => .no)
      | some (.bl false) => .ok (.bl false) s
      | _ => .no)
    | none => .no)
  | .ex x s => .ex x s
  | _ => .no
theorem RelAs.stp {K : PySem.W.Frag} {lab lab' : Labs} {H H' : Hp} {σ : L2.St} (w : Wf lab H) (st : Step lab H lab' H') : ∀ {xs : List (Nat ⊕ D)} {vs : List V}, RelAs K H lab σ xs vs → RelAs K H' lab' σ xs vs
  | _, _, .nil => .nil
  | _, _, .vw h t => .vw h (t.stp w st)
  | _, _, .ev h t => .ev (Frz.stp w st h) (t.stp w st)
theorem RelAs.tail {K : PySem.W.Frag} {lab : Labs} {H : Hp} {σ : L2.St} {x : Nat ⊕ D} {xs : List (Nat ⊕ D)} {v : V} {vs : List V} (h : RelAs K H lab σ (x :: xs) (v :: vs)) : RelAs K H lab σ xs vs := by
  cases h with
  | vw _ t => exact t
  | ev _ t => exact t
theorem RelAs.two {K : PySem.W.Frag} {lab : Labs} {H : Hp} {σ : L2.St} {x y : Nat ⊕ D} {v u : V} (h : RelAs K H lab σ [x] [v]) (h' : RelAs K H lab σ [y] [u]) : RelAs K H lab σ [x, y] [v, u] := by
  cases h with
  | vw h _ => exact .vw h h'
  | ev h _ => exact .ev h h'
theorem chain_ok {K : PySem.W.Frag} {mg : Str → Option Value} {W : WX} {g1 g2 : List D → Option D} {r1 r2 : R2} {A B C : Arg} (h1 : OpOk K g1 true (b2 r1)) (h2 : OpOk K g2 true (b2 r2)) {σ : L2.St} {H : Hp} {Q : VK} (t : tEv K mg W true (fChain g1 g2 A B C) σ H Q) : tChain r1 r2 (tArg K mg W A) (tArg K mg W B) (tArg K mg W C) σ H Q := by
  obtain ⟨lab, sa, k, I, f, t⟩ := t
  refine (args_ok (Q := fun vs H1 => match vs with
    | [x, y] => r1 x y H1 fun z H3 => ∃ b, z = .bl b ∧ (if b = true then tArg K mg W C σ H3 fun w' H4 => r2 y w' H4 Q else Q (.bl false) H3)
    | _ => False) [A, B] I f ?_)
  simp only [fChain] at t
  cases he : evArgs [A, B] sa with
  | ex x s => rw [he] at t; exact t
  | no => rw [he] at t; exact t
  | ok xs s =>
    rw [he] at t
    intro vs H1 lab1 I1 st1 f1 rel
    have hlx := evArgs_len he
    match xs, vs, hlx, rel, t with
    | [x, y], [v, u], _, rel, t =>
      simp only at t
      cases hf : fetchAll s [x, y] with
      | none => rw [hf] at t; exact t.elim
      | some ds =>
        rw [hf] at t
        simp only at t
        cases hg : g1 ds with
        | none => rw [hg] at t; exact t.elim
        | some d =>
          rw [hg] at t
          refine h1 H1 lab1 k ds [v, u] d _ I1.wf f1 (rel.rd I1 hf) hg fun z H3 res => ?_
          obtain ⟨lab3, gr, w3, f3, hold⟩ := res
          cases d <;> first | exact t.elim | skip
          rename_i b
          have hz := hold.rdv.bl_inv
          refine ⟨b, hz, ?_⟩
          have I3 := (I1.grow gr w3).swap (l := .tmp k) (l' := .frz) (fun e => nomatch e) (fun e => nomatch e) (fun e => nomatch e) (fun _ e => nomatch e)
          have st3 : Step lab1 H1 (swp lab3 (.tmp k) .frz) H3 := gr.step.swpTmp f1
          cases b with
          | false =>
            rw [if_neg (by decide)]
            simp only at t
            refine t (.bl false) H3 _ I3 (st1.trans st3) (f3.frzTmp.mono (Nat.le_succ _)) (.inl ⟨rfl, .bl _⟩)
          | true =>
            rw [if_pos rfl]
            simp only at t
            refine args_ok (Q := fun vs H4 => match vs with
              | [w'] => r2 u w' H4 Q
              | _ => False) [C] I3 f3.frzTmp ?_
            have rel3 := rel.tail.stp I1.wf st3
            cases hc : evArgs [C] s with
            | ex x s2 =>
              rw [hc] at t
              exact fun H' lab' cls dx I' st' f' xo => t H' lab' cls dx I' ((st1.trans st3).trans st') f' xo
            | no => rw [hc] at t; exact t
            | ok zs s2 =>
              rw [hc] at t
              intro ws H4 lab4 I4 st4 f4 rel4
              have hlz := evArgs_len hc
              match zs, ws, hlz, rel4, t with
              | [z'], [w'], _, rel4, t =>
                simp only at t
                cases hf2 : fetchAll s2 [y, z'] with
                | none => rw [hf2] at t; exact t.elim
                | some es =>
                  rw [hf2] at t
                  simp only at t
                  cases hg2 : g2 es with
                  | none => rw [hg2] at t; exact t.elim
                  | some d2 =>
                    rw [hg2] at t
                    refine h2 H4 lab4 k es [u, w'] d2 Q I4.wf f4 ((RelAs.two (rel3.stp I3.wf st4) rel4).rd I4 hf2) hg2 fun v5 H5 res => ?_
                    obtain ⟨lab5, gr5, w5, f5, hold5⟩ := res
                    exact t v5 H5 lab5 (I4.grow gr5 w5) (((st1.trans st3).trans st4).trans gr5.step) f5 hold5
section
variable {X : Cx} {W : WX}
theorem me_chain {op op' : CmpOp} {r1 r2 : R2} {g1 g2 : List D → Option D} {a b c : Expr} {A B C : Arg} {pos : Pos} (ho : OpR X (compareOp op) r1) (ho' : OpR X (compareOp op') r2) (h1 : OpOk X.K g1 true (b2 r1)) (h2 : OpOk X.K g2 true (b2 r2)) (ha : MA X W a A) (hb : MA X W b B) (hc : MA X W c C) (hm : lastMarks [op, op'] [b, c] = false := by with_unfolding_all rfl) : ME X W (.Compare a [op, op'] [b, c] pos) true (fChain g1 g2 A B C) :=
  pe_mono (pe_chain ho ho' ha hb hc hm) fun σ H Q t => chain_ok h1 h2 t
theorem mt_chain {op op' : CmpOp} {r1 r2 : R2} {g1 g2 : List D → Option D} {a b c : Expr} {A B C : Arg} {pos : Pos} (ho : OpR X (compareOp op) r1) (ho' : OpR X (compareOp op') r2) (h1 : OpOk X.K g1 true (b2 r1)) (h2 : OpOk X.K g2 true (b2 r2)) (ha : MA X W a A) (hb : MA X W b B) (hc : MA X W c C) (hm : lastMarks [op, op'] [b, c] = false := by with_unfolding_all rfl) : MT X W (.Compare a [op, op'] [b, c] pos) (fTb (fChain g1 g2 A B C)) :=
  pt_mono (pt_chain ho ho' ha hb hc hm) fun σ H Q t => chain_ok h1 h2 (tTv_of (n := true) t)
end
/-! ### and, or, not as values (bools) -/
def fAndV (f g : AE) : AE := fun sa => match f sa with
  | .ok (.bl true) s => g s
  | .ok (.bl false) s => .ok (.bl false) s
  | .ex x s => .ex x s
  | _ => .no
def fOrV (f g : AE) : AE := fun sa => match f sa with
  | .ok (.bl false) s => g s
  | .ok (.bl true) s => .ok (.bl true) s
  | .ex x s => .ex x s
  | _ => .no
def fNotV (f : AE) : AE := fun sa => match f sa with
  | .ok (.bl b) s => .ok (.bl (!b)) s
  | .ex x s => .ex x s
  | _ => .no
section
variable {X : Cx} {W : WX}
theorem hold_bl {K : PySem.W.Frag} {H : Hp} {lab : Labs} {l : Lab} (n : Bool) (b : Bool) : Hold K H lab l n.toNat (.bl b) (.bl b) := by
  cases n with
  | false => exact .bl b
  | true => exact .inl ⟨rfl, .bl b⟩
theorem me_one {op} {a : Expr} {n : Bool} {f : AE} {pos} (h : ME X W a n f) : ME X W (.BoolOp op [a] pos) n f := pe_one h
theorem me_and {a b : Expr} {rest : List Expr} {n m : Bool} {f g : AE} {pos} (ha : ME X W a n f) (hb : ME X W (.BoolOp .And (b :: rest) pos) m g) : ME X W (.BoolOp .And (a :: b :: rest) pos) m (fAndV f g) := pe_mono (pe_and ha hb) fun σ H Q t => by
  obtain ⟨lab, sa, k, I, fr, t⟩ := t
  refine ⟨lab, sa, k, I, fr, ?_⟩
  simp only [fAndV] at t
  cases hf : f sa with
  | ex x s => rw [hf] at t; exact t
  | no => rw [hf] at t; exact t
  | ok d s =>
    rw [hf] at t
    cases d <;> first | exact t.elim | skip
    rename_i b
    intro v H' lab' I' st f' r
    refine ⟨b, r.rdv.bl_inv, ?_⟩
    have I2 := I'.swap (l := .tmp k) (l' := .frz) (fun e => nomatch e) (fun e => nomatch e) (fun e => nomatch e) (fun _ e => nomatch e)
    cases b with
    | true => rw [if_pos rfl]; exact tEv_stp I2 f'.frzTmp (st.swpTmp fr) t
    | false =>
      rw [if_neg (by decide)]
      exact t (.bl false) H' _ I2 (st.swpTmp fr) (f'.frzTmp.mono (Nat.le_succ _)) (hold_bl m false)
theorem me_or {a b : Expr} {rest : List Expr} {n m : Bool} {f g : AE} {pos} (ha : ME X W a n f) (hb : ME X W (.BoolOp .Or (b :: rest) pos) m g) : ME X W (.BoolOp .Or (a :: b :: rest) pos) m (fOrV f g) := pe_mono (pe_or ha hb) fun σ H Q t => by
  obtain ⟨lab, sa, k, I, fr, t⟩ := t
  refine ⟨lab, sa, k, I, fr, ?_⟩
  simp only [fOrV] at t
  cases hf : f sa with
  | ex x s => rw [hf] at t; exact t
  | no => rw [hf] at t; exact t
  | ok d s =>
    rw [hf] at t
    cases d <;> first | exact t.elim | skip
    rename_i b
    intro v H' lab' I' st f' r
    refine ⟨b, r.rdv.bl_inv, ?_⟩
    have I2 := I'.swap (l := .tmp k) (l' := .frz) (fun e => nomatch e) (fun e => nomatch e) (fun e => nomatch e) (fun _ e => nomatch e)
    cases b with
    | false => rw [if_neg (by decide)]; exact tEv_stp I2 f'.frzTmp (st.swpTmp fr) t
    | true =>
      rw [if_pos rfl]
      exact t (.bl true) H' _ I2 (st.swpTmp fr) (f'.frzTmp.mono (Nat.le_succ _)) (hold_bl m true)
theorem me_notV {a : Expr} {n : Bool} {f : AE} {pos} (ha : ME X W a n f) : ME X W (.UnaryOp .Not a pos) true (fNotV f) := pe_mono (pe_not ha) fun σ H Q t => by
  obtain ⟨lab, sa, k, I, fr, t⟩ := t
  refine ⟨lab, sa, k, I, fr, ?_⟩
  simp only [fNotV] at t
  cases hf : f sa with
  | ex x s => rw [hf] at t; exact t
  | no => rw [hf] at t; exact t
  | ok d s =>
    rw [hf] at t
    cases d <;> first | exact t.elim | skip
    rename_i b
    intro v H' lab' I' st f' r
    have I2 := I'.swap (l := .tmp k) (l' := .frz) (fun e => nomatch e) (fun e => nomatch e) (fun e => nomatch e) (fun _ e => nomatch e)
    exact ⟨b, r.rdv.bl_inv, t (.bl (!b)) H' _ I2 (st.swpTmp fr) (f'.frzTmp.mono (Nat.le_succ _)) (hold_bl true _)⟩
/-- a constant of the module -/
theorem me_glob {x : Str} {d : D} {v : V} {u : Value} {pos : Pos} (hm : X.mg x = some u) (r : RelV v u) (hd : ∀ (K : PySem.W.Frag) (H : Hp) (lab : Labs), Frz K H lab d v) (hg : Gl X x := by rfl) (hdb : (x == ("__debug__" : Str)) = false := by decide) : ME X W (.Name x pos) false (fC d) := me_c (pe_glob hg hm r hdb) hd
end
/-! ### an owned list is changed -/
/-- the built-in types that are changed -/
inductive Mu where
  | list | dict
def Mu.nm : Mu → String
  | .list => "list"
  | .dict => "dict"
def Mu.ok : Mu → D → Bool
  | .list, .lst _ => true
  | .dict, .dic _ _ => true
  | _, _ => false
/-- a method of what slot i owns: the new thing and the answer -/
def fMut (T : Mu) (i : Nat) (g : D → List D → Option (D × D)) (args : List Arg) : AE := fun sa => match sa[i]? with
  | some (some (d₀, _)) => if T.ok d₀ = true then
      (match evArgs args sa with
        | .ok xs s => (match inrAll xs with
          | some ds => (match s[i]? with
            | some (some (d, n)) => if n = 1 then (match g d ds with
                | some (d', r) => .ok r (s.set i (some (d', 1)))
                | none => .no) else .no
            | _ => .no)
          | none => .no)
        | .ex x s => .ex x s
        | .no => .no) else .no
  | _ => .no
/-- what a change asks of the object -/
def MutOk (K : PySem.W.Frag) (g : D → List D → Option (D × D)) (r : V → List V → Hp → VK → Prop) : Prop :=
  ∀ (H : Hp) (lab : Labs) (a : Addr) (o : HO) (d : D) (cs : List D) (ws : List V) (ds : List D) (vs : List V) (d' e : D) (Q : VK), Wf lab H → H a = some o → lab a ≠ .frz → Sh o d cs ws → FrzL K H lab cs ws → FrzL K H lab ds vs → g d ds = some (d', e) →
    (∀ o' cs' ws' v, Sh o' d' cs' ws' → FrzL K H lab cs' ws' → Frz K H lab e v → Q v (upd H a o')) → r (.ref a) vs H Q
theorem step_updSlot {lab : Labs} {H : Hp} {a : Addr} {i : Nat} {o : HO} (h : lab a = .slot i) : Step lab H lab (upd H a o) := fun b u e n => by
  have q : b ≠ a := fun q => n i (by rw [q]; exact h)
  exact ⟨by rw [upd_ne q]; exact e, rfl⟩
theorem FI.updSlot {K : PySem.W.Frag} {H : Hp} {lab : Labs} {s : AS} {σ : L2.St} {i : Nat} {d d' : D} {a : Addr} {o : HO} {cs : List D} {ws : List V} (I : FI K H lab s σ) (hs : s[i]? = some (some (d, 1))) (hv : σ[i]? = some (some (.ref a))) (ha : MutO H a) (hl : lab a = .slot i) (sh : Sh o d' cs ws) (t : FrzL K H lab cs ws) : FI K (upd H a o) lab (s.set i (some (d', 1))) σ := by
  have st : Step lab H lab (upd H a o) := step_updSlot hl
  refine ⟨fun b hb => ?_, by rw [List.length_set]; exact I.len, fun j e n hj => ?_⟩
  · by_cases q : b = a
    · rw [q, upd_same]; exact sh.mut
    · rw [upd_ne q]; exact I.wf b hb
  · have hi : i < s.length := by
      rcases Nat.lt_or_ge i s.length with h1 | h1
      · exact h1
      · rw [List.getElem?_eq_none h1] at hs; cases hs
    by_cases q : i = j
    · subst q
      rw [List.getElem?_set_self hi] at hj
      simp at hj
      obtain ⟨rfl, rfl⟩ := hj
      exact ⟨.ref a, hv, .inr ⟨a, o, cs, ws, rfl, upd_same, hl, sh, t.stp I.wf st⟩⟩
    · rw [List.getElem?_set_ne q] at hj
      obtain ⟨v, hv', r⟩ := I.sl j e n hj
      refine ⟨v, hv', ?_⟩
      have own : ∀ {l : Lab} {d : D} {v : V}, l ≠ .slot i → Own K H lab l d v → Own K (upd H a o) lab l d v := fun hn ⟨b, o', ds, vs, e, hb, hlb, sh', t'⟩ => by
        have qb : b ≠ a := fun q => by rw [q, hl] at hlb; exact hn hlb.symm
        exact ⟨b, o', ds, vs, e, by rw [upd_ne qb]; exact hb, hlb, sh', t'.stp I.wf st⟩
      match n, r with
      | 0, r => exact Frz.stp I.wf st r
      | 1, r =>
        rcases r with ⟨m, r⟩ | r
        · exact .inl ⟨m, Frz.stp I.wf st r⟩
        · exact .inr (own (fun z => q (by cases z; rfl)) r)
      | n + 2, r => exact own (fun z => nomatch z) r
theorem Mu.tyv {K : PySem.W.Frag} {H : Hp} {lab : Labs} {T : Mu} {d : D} {v : V} (h : T.ok d = true) (r : Rdv K H lab d v) : tyV K T.nm v H := by
  have go : ∀ {a : Addr} {o : HO} {ds : List D} {vs : List V}, H a = some o → Sh o d ds vs → tyV K T.nm (.ref a) H := fun ha sh => by
    cases T with
    | list =>
      cases sh with
      | lst => exact .inl ⟨rfl, _, .inl (.inl ha)⟩
      | dK => cases h
      | dT => cases h
      | set => cases h
    | dict =>
      cases sh with
      | lst => cases h
      | dK => exact .inr (.inr (.inl ⟨rfl, .inl ⟨_, ha⟩⟩))
      | dT => exact .inr (.inr (.inl ⟨rfl, .inr ⟨_, ha⟩⟩))
      | set => cases h
  rcases r with r | ⟨_, a, o, ds, vs, rfl, ha, _, sh, _⟩
  · cases r with
    | obj ha _ sh _ => exact go ha sh
    | non => cases T <;> cases h
    | bl => cases T <;> cases h
    | int => cases T <;> cases h
    | str => cases T <;> cases h
    | ty => cases T <;> cases h
    | tup => cases T <;> cases h
    | ro => cases T <;> cases h
  · exact go ha sh
/-- THE STEP of a change -/
theorem mut_ok {K : PySem.W.Frag} {mg : Str → Option Value} {W : WX} {T : Mu} {g : D → List D → Option (D × D)} {r : V → List V → Hp → VK → Prop} {i : Nat} {args : List Arg} (hm : ∀ d ds x, g d ds = some x → d.mut = true) (h : MutOk K g r) {σ : L2.St} {H : Hp} {Q : VK} (t : tEv K mg W false (fMut T i g args) σ H Q) : ∃ v, σ[i]? = some (some v) ∧ tyV K T.nm v H ∧ tArgs K mg W args σ H fun vs H1 => r v vs H1 Q := by
  obtain ⟨lab, sa, k, I, f, t⟩ := t
  simp only [fMut] at t
  cases hs0 : sa[i]? with
  | none => rw [hs0] at t; exact t.elim
  | some o0 =>
    cases o0 with
    | none => rw [hs0] at t; exact t.elim
    | some p0 =>
      obtain ⟨d0, n0⟩ := p0
      rw [hs0] at t
      dsimp only at t
      by_cases hty : T.ok d0 = true
      case neg => rw [if_neg hty] at t; exact t.elim
      rw [if_pos hty] at t
      obtain ⟨v, hv, r0⟩ := I.sl i d0 n0 hs0
      refine ⟨v, hv, Mu.tyv hty r0.rdv, args_ok args I f ?_⟩
      cases he : evArgs args sa with
      | ex x s => rw [he] at t; exact t
      | no => rw [he] at t; exact t
      | ok xs s =>
        rw [he] at t
        dsimp only at t
        intro vs H1 lab1 I1 st1 f1 rel
        cases hx : inrAll xs with
        | none => rw [hx] at t; exact t.elim
        | some ds =>
          rw [hx] at t
          dsimp only at t
          cases hs : s[i]? with
          | none => rw [hs] at t; exact t.elim
          | some o =>
            cases o with
            | none => rw [hs] at t; exact t.elim
            | some p =>
              obtain ⟨d, n⟩ := p
              rw [hs] at t
              dsimp only at t
              by_cases hn : n = 1
              case neg => rw [if_neg hn] at t; exact t.elim
              rw [if_pos hn] at t
              subst hn
              cases hg : g d ds with
              | none => rw [hg] at t; exact t.elim
              | some x =>
                obtain ⟨d', e⟩ := x
                rw [hg] at t
                obtain ⟨u, hu, ru⟩ := I1.sl i d 1 hs
                rw [hv] at hu
                cases hu
                rcases ru with ⟨hmut, _⟩ | ⟨a, ob, cs, ws, rfl, ha, hla, sh, tt⟩
                · rw [hm d ds _ hg] at hmut; cases hmut
                · refine h H1 lab1 a ob d cs ws ds vs d' e Q I1.wf ha (by rw [hla]; exact fun z => nomatch z) sh tt (rel.frz hx) hg fun o' cs' ws' v' sh' t' fe => ?_
                  have st2 : Step lab1 H1 lab1 (upd H1 a o') := step_updSlot hla
                  exact t v' (upd H1 a o') lab1 (I1.updSlot hs hv (by unfold MutO; rw [ha]; exact sh.mut) hla sh' t') (st1.trans st2) (f1.mono (Nat.le_succ _)) (Frz.stp I1.wf st2 fe)
/-! append, extend, pop -/
def gAppend : D → List D → Option (D × D)
  | .lst xs, [d] => if xs.length < 16000000 then some (.lst (xs ++ [d]), .non) else none
  | _, _ => none
theorem append_ok {K : PySem.W.Frag} : MutOk K gAppend rAppend := fun H lab a o d cs ws ds vs d' e Q w ha hl sh t ht hg q => by
  unfold gAppend at hg
  split at hg
  · split at hg
    · rename_i hz
      cases hg
      cases sh
      cases ht with
      | cons h1 t1 =>
        cases t1
        exact ⟨a, ws, _, rfl, rfl, ha, by rw [← t.length, sizeLine_eq]; omega, q _ _ _ _ (.lst _ _) (t.append (.cons h1 .nil)) .non⟩
    · cases hg
  · cases hg
def gPop : D → List D → Option (D × D)
  | .lst xs, [] => (xs[xs.length - 1]?).map fun d => (.lst xs.dropLast, d)
  | _, _ => none
theorem FrzL.dropLast {K : PySem.W.Frag} {H : Hp} {lab : Labs} {ds : List D} {vs : List V} (h : FrzL K H lab ds vs) : FrzL K H lab ds.dropLast vs.dropLast := by
  rw [List.dropLast_eq_take, List.dropLast_eq_take, ← h.length]
  exact h.take _
theorem pop_ok {K : PySem.W.Frag} : MutOk K gPop rPop := fun H lab a o d cs ws ds vs d' e Q w ha hl sh t ht hg q => by
  unfold gPop at hg
  split at hg
  · simp only [Option.map_eq_some_iff] at hg
    obtain ⟨y, hy, e⟩ := hg
    cases e
    cases sh
    cases ht
    obtain ⟨u, hu, ru⟩ := t.get hy
    rw [t.length] at hu
    exact ⟨a, ws, u, rfl, rfl, ha, hu, q _ _ _ _ (.lst _ _) t.dropLast ru⟩
  · cases hg
def gPopAt : D → List D → Option (D × D)
  | .lst xs, [.int i] => if -(2 ^ 62) ≤ i ∧ i < 2 ^ 62 then (seqIndex? i xs.length).bind fun k => (xs[k]?).map fun d => (.lst (xs.eraseIdx k), d) else none
  | _, _ => none
theorem popAt_ok {K : PySem.W.Frag} : MutOk K gPopAt rPopAt := fun H lab a o d cs ws ds vs d' e Q w ha hl sh t ht hg q => by
  unfold gPopAt at hg
  split at hg
  · rename_i xs i
    split at hg
    · rename_i hi
      simp only [Option.bind_eq_some_iff, Option.map_eq_some_iff] at hg
      obtain ⟨k, hk, y, hy, e⟩ := hg
      cases e
      cases sh
      cases ht with
      | cons h1 t1 =>
        cases t1
        rw [h1.int_inv]
        obtain ⟨u, hu, ru⟩ := t.get hy
        rw [t.length] at hk
        exact ⟨a, ws, i, k, u, rfl, rfl, ha, by omega, by omega, hk, hu, q _ _ _ _ (.lst _ _) (t.eraseIdx k) ru⟩
    · cases hg
  · cases hg
section
variable {X : Cx} {W : WX}
theorem me_append {e o : Expr} {i : Nat} {n : Bool} {f : AE} {apos cpos : Pos} (ho : PE X o (tVar i)) (he : ME X W e n f) (hbase : attributeBase o "append" X.env (eval o X.env) = eval o X.env := by rfl) (hfew : ((backTo cpos (starEach [e] X.env)).all (fun x => !x.1) && (backToKw cpos (keywordEach [] X.env)).all (fun x => x.1.isSome) && decide ([e].length + ([] : List Keyword).length + (if ([] : List Keyword).isEmpty then 0 else 1) < 30)) = true := by rfl) (hline : (apos.endLine == cpos.line) = true := by rfl)
    (hs : starEach [e] X.env = (false, eval e X.env) :: starEach [] X.env := by rfl) (hplain : (backTo cpos (starEach [] X.env)).any (·.1) = false := by rfl) : ME X W (.Call (.Attribute o "append" apos) [e] [] cpos) false (fMut .list i gAppend [.ev n f]) :=
  pe_mono (pe_bm PySem.F.plainAttrs_list PySem.F.slot_list_append PySem.F.type_list_append mt_append ho (pa_cons (ma_ev he) pa_nil hs) hbase hfew hline hs hplain) fun σ H Q t => mut_ok (T := .list) (fun d ds x h => by
    unfold gAppend at h
    split at h
    · rfl
    · cases h) append_ok t
theorem me_popAt {e o : Expr} {i : Nat} {n : Bool} {f : AE} {apos cpos : Pos} (ho : PE X o (tVar i)) (he : ME X W e n f) (hbase : attributeBase o "pop" X.env (eval o X.env) = eval o X.env := by rfl) (hfew : ((backTo cpos (starEach [e] X.env)).all (fun x => !x.1) && (backToKw cpos (keywordEach [] X.env)).all (fun x => x.1.isSome) && decide ([e].length + ([] : List Keyword).length + (if ([] : List Keyword).isEmpty then 0 else 1) < 30)) = true := by rfl) (hline : (apos.endLine == cpos.line) = true := by rfl)
    (hs : starEach [e] X.env = (false, eval e X.env) :: starEach [] X.env := by rfl) (hplain : (backTo cpos (starEach [] X.env)).any (·.1) = false := by rfl) : ME X W (.Call (.Attribute o "pop" apos) [e] [] cpos) false (fMut .list i gPopAt [.ev n f]) :=
  pe_mono (pe_bm PySem.F.plainAttrs_list PySem.F.slot_list_pop PySem.F.type_list_pop mt_popAt ho (pa_cons (ma_ev he) pa_nil hs) hbase hfew hline hs hplain) fun σ H Q t => mut_ok (T := .list) (fun d ds x h => by
    unfold gPopAt at h
    split at h
    · rfl
    · cases h) popAt_ok t
theorem me_pop {o : Expr} {i : Nat} {apos cpos : Pos} (ho : PE X o (tVar i)) (hbase : attributeBase o "pop" X.env (eval o X.env) = eval o X.env := by rfl) (hline : (apos.endLine == cpos.line) = true := by rfl) : ME X W (.Call (.Attribute o "pop" apos) [] [] cpos) false (fMut .list i gPop []) :=
  pe_mono (pe_bm0 PySem.F.plainAttrs_list PySem.F.slot_list_pop PySem.F.type_list_pop mt_pop ho hbase hline) fun σ H Q t => mut_ok (T := .list) (fun d ds x h => by
    unfold gPop at h
    split at h
    · rfl
    · cases h) pop_ok t
end
/-! xs[i] = v -/
/-- the value, then the thing that slot i owns, then the place -/
def fStore (i : Nat) (g : D → D → D → Option D) (f : AE) (A : Arg) : ASt := fun sa => match f sa with
  | .ok d s => (match evArgs [.vw i, A] s with
    | .ok [_, x] s2 => (match fetch s2 x with
      | some k => (match s2[i]? with
        | some (some (c, n)) => if n = 1 then (match g c k d with
            | some c' => .ok .nx (s2.set i (some (c', 1)))
            | none => .no) else .no
        | _ => .no)
      | none => .no)
    | .ex x s2 => .ex x s2
    | _ => .no)
  | .ex x s => .ex x s
  | .no => .no
def gSetL : D → D → D → Option D
  | .lst ds, .int k, d => (ixN ds.length k).map fun j => .lst (ds.set j d)
  | _, _, _ => none
/-- what a store asks -/
def SetOk (K : PySem.W.Frag) (g : D → D → D → Option D) (r : V → V → V → Hp → (Hp → Prop) → Prop) : Prop :=
  ∀ (H : Hp) (lab : Labs) (a : Addr) (o : HO) (c : D) (cs : List D) (ws : List V) (kd : D) (kv : V) (d : D) (v : V) (c' : D) (Q : Hp → Prop), Wf lab H → H a = some o → Sh o c cs ws → FrzL K H lab cs ws → Rdv K H lab kd kv → Frz K H lab d v → g c kd d = some c' →
    (∀ o' cs' ws', Sh o' c' cs' ws' → FrzL K H lab cs' ws' → Q (upd H a o')) → r (.ref a) kv v H Q
theorem setL_ok {K : PySem.W.Frag} : SetOk K gSetL rSetL := fun H lab a o c cs ws kd kv d v c' Q w ha sh t rk fd hg q => by
  unfold gSetL at hg
  split at hg
  · rename_i ds k
    simp only [Option.map_eq_some_iff] at hg
    obtain ⟨j, hj, rfl⟩ := hg
    cases sh
    rw [t.length] at hj
    exact ⟨a, ws, k, j, rfl, rk.int_inv, ha, hj, q _ _ _ (.lst _ _) (t.set fd j)⟩
  · cases hg
section
variable {X : Cx} {W : WX} {rd : Bool} {A : Nat → Bool}
theorem ms_store {o ix e : Expr} {i : Nat} {n : Bool} {f : AE} {B : Arg} {g : D → D → D → Option D} {r : V → V → V → Hp → (Hp → Prop) → Prop} {p1 pos : Pos} (hg : ∀ c k d c', g c k d = some c' → c.mut = true) (hk : SetOk X.K g r) (he : ME X W e n f) (ho : PE X o (tVar i)) (hi : MA X W ix B) (hs : PSet X r)
    (ha : ∀ v, assign (.Subscript o ix p1) X.env v = (do let ov ← holding [v] (eval o X.env); let iv ← holding [v, ov] (eval ix X.env); standAt p1; holding [v, ov, iv] (setItem ov iv v); release [v, ov, iv] []) := by intro _; rfl)
    (h1 : swapsWithSole [.Subscript o ix p1] e pos.line X.env = pure false := by rfl) (h2 : swappedStores [.Subscript o ix p1] e X.env = pure none := by rfl) (h3 : (assignEach [.Subscript o ix p1] X.env).map (·.2) = [assign (.Subscript o ix p1) X.env] := by rfl) :
    MS X W rd A (.Assign [.Subscript o ix p1] e pos) (fStore i g f B) := ps_mono (ps_asg he (pg_sub ho hi hs ha) h1 h2 h3) fun D σ H t => by
  obtain ⟨lab, sa, I, fr, t⟩ := t
  refine ev_sv (A := A) I fr ?_
  simp only [fStore] at t
  cases hf : f sa with
  | ex x s => rw [hf] at t; exact t
  | no => rw [hf] at t; exact t
  | ok d s =>
    rw [hf] at t
    dsimp only at t
    intro v H1 lab1 I1 st1 f1 rv
    have I2 := I1.swap (l := .tmp 0) (l' := .frz) (fun e => nomatch e) (fun e => nomatch e) (fun e => nomatch e) (fun _ e => nomatch e)
    have rf : Frz X.K H1 (swp lab1 (.tmp 0) .frz) d v := rv.frz (fun a e => swp_keep (fun q => nomatch q) e) (fun a e => swp_at e) (by cases n <;> decide)
    have st2 : Step lab H (swp lab1 (.tmp 0) .frz) H1 := st1.swpTmp fr
    refine args_ok (W := W) (Q := fun vs H2 => match vs with
      | [x, y] => r x y v H2 fun H3 => D.nx σ H3
      | _ => False) [.vw i, B] I2 f1.frzTmp ?_
    cases he : evArgs [.vw i, B] s with
    | ex x s2 =>
      rw [he] at t
      exact fun H' lab' cls dx I' st' f' xo => t σ H' lab' cls dx I' (st2.trans st') (AsgOk.refl _ _) f' xo
    | no => rw [he] at t; exact t
    | ok xs s2 =>
      rw [he] at t
      intro vs H2 lab2 I3 st3 f3 rel
      have hlen := evArgs_len he
      match xs, vs, hlen, rel, t with
      | [x0, x], [v0, v1], _, rel, t =>
        simp only at t
        have hx0 : x0 = .inl i := by
          simp only [evArgs] at he
          split at he
          · split at he
            · cases he; rfl
            · cases he
            · cases he
          · cases he
        subst hx0
        cases hfx : fetch s2 x with
        | none => rw [hfx] at t; exact t.elim
        | some kd =>
          rw [hfx] at t
          simp only at t
          cases hsi : s2[i]? with
          | none => rw [hsi] at t; exact t.elim
          | some oc =>
            cases oc with
            | none => rw [hsi] at t; exact t.elim
            | some p =>
              obtain ⟨c, m⟩ := p
              rw [hsi] at t
              simp only at t
              by_cases hm : m = 1
              case neg => rw [if_neg hm] at t; exact t.elim
              rw [if_pos hm] at t
              subst hm
              cases hgc : g c kd d with
              | none => rw [hgc] at t; exact t.elim
              | some c' =>
                rw [hgc] at t
                obtain ⟨u, hu, ru⟩ := I3.sl i c 1 hsi
                have hv0 : σ[i]? = some (some v0) := by
                  cases rel with
                  | vw h _ => exact h
                rw [hv0] at hu
                cases hu
                rcases ru with ⟨hmut, _⟩ | ⟨a, ob, cs, ws, rfl, hao, hla, sh, tt⟩
                · rw [hg c kd d c' hgc] at hmut; cases hmut
                · have rk : Rdv X.K H2 lab2 kd v1 := by
                    have := rel.tail.rd I3 (show fetchAll s2 [x] = some [kd] by simp [fetchAll, hfx])
                    obtain ⟨w1, e, r1⟩ := this.one
                    cases e
                    exact r1
                  refine hk H2 lab2 a ob c cs ws kd v1 d v c' _ I3.wf hao sh tt rk (Frz.stp I2.wf st3 rf) hgc fun o' cs' ws' sh' t' => ?_
                  have st4 : Step lab2 H2 lab2 (upd H2 a o') := step_updSlot hla
                  exact t σ (upd H2 a o') lab2 (I3.updSlot hsi hv0 (by unfold MutO; rw [hao]; exact sh.mut) hla sh' t') ((st2.trans st3).trans st4) (AsgOk.refl _ _) f3
theorem ms_setL {o ix e : Expr} {i : Nat} {n : Bool} {f : AE} {B : Arg} {p1 pos : Pos} (he : ME X W e n f) (ho : PE X o (tVar i)) (hi : MA X W ix B)
    (ha : ∀ v, assign (.Subscript o ix p1) X.env v = (do let ov ← holding [v] (eval o X.env); let iv ← holding [v, ov] (eval ix X.env); standAt p1; holding [v, ov, iv] (setItem ov iv v); release [v, ov, iv] []) := by intro _; rfl)
    (h1 : swapsWithSole [.Subscript o ix p1] e pos.line X.env = pure false := by rfl) (h2 : swappedStores [.Subscript o ix p1] e X.env = pure none := by rfl) (h3 : (assignEach [.Subscript o ix p1] X.env).map (·.2) = [assign (.Subscript o ix p1) X.env] := by rfl) :
    MS X W rd A (.Assign [.Subscript o ix p1] e pos) (fStore i gSetL f B) := ms_store (fun c k d c' h => by
      unfold gSetL at h
      split at h
      · rfl
      · cases h) setL_ok he ho hi set_list ha h1 h2 h3
end
end PV
/-! PV 13: is, in, sorted, more walks -/
namespace PV
open PySem PySem.Spec PyProof.Rows L2
/-! ### is -/
def D.isNon : D → Bool
  | .non => true
  | _ => false
def gIsN : List D → Option D
  | [.bl a, .bl b] => some (.bl (decide (a = b)))
  | [d, .non] => some (.bl d.isNon)
  | _ => none
def gNotN : List D → Option D
  | [.bl a, .bl b] => some (.bl (!decide (a = b)))
  | [d, .non] => some (.bl (!d.isNon))
  | _ => none
section
variable {K : PySem.W.Frag} {H : Hp} {lab : Labs}
theorem Rdv.isNon {d : D} {v : V} (h : Rdv K H lab d v) : decide (v = .non) = d.isNon := by
  rcases h with h | ⟨l, a, o, ds, vs, rfl, ha, hl, sh, t⟩
  · cases h with
    | obj _ _ sh _ => cases sh <;> rfl
    | _ => rfl
  · cases sh <;> rfl
end
def rIsA : R2 := fun x y H Q => (y = .non ∧ Q (.bl (decide (x = .non))) H) ∨ rIsB x y H Q
def rIsNotA : R2 := fun x y H Q => (y = .non ∧ Q (.bl (!decide (x = .non))) H) ∨ rNotB x y H Q
theorem op_isA {X : Cx} : OpR X (compareOp .Is) rIsA := OpR.or op_isN op_isBl
theorem op_isNotA {X : Cx} : OpR X (compareOp .IsNot) rIsNotA := OpR.or op_notN op_notBl
theorem isA_ok {K : PySem.W.Frag} : OpOk K gIsN true (b2 rIsA) := fun H lab k ds vs d Q w fr rd hg q => by
  unfold gIsN at hg
  split at hg
  · cases hg
    obtain ⟨v, u, rfl, r1, r2⟩ := rd.two
    rw [r1.bl_inv, r2.bl_inv]
    exact .inr ⟨_, _, rfl, rfl, q _ _ (res_pure w fr (.bl _) (.inr rfl))⟩
  · cases hg
    obtain ⟨v, u, rfl, r1, r2⟩ := rd.two
    rw [r2.non_inv]
    refine .inl ⟨rfl, ?_⟩
    rw [r1.isNon]
    exact q _ _ (res_pure w fr (.bl _) (.inr rfl))
  · cases hg
theorem isNotA_ok {K : PySem.W.Frag} : OpOk K gNotN true (b2 rIsNotA) := fun H lab k ds vs d Q w fr rd hg q => by
  unfold gNotN at hg
  split at hg
  · cases hg
    obtain ⟨v, u, rfl, r1, r2⟩ := rd.two
    rw [r1.bl_inv, r2.bl_inv]
    exact .inr ⟨_, _, rfl, rfl, q _ _ (res_pure w fr (.bl _) (.inr rfl))⟩
  · cases hg
    obtain ⟨v, u, rfl, r1, r2⟩ := rd.two
    rw [r2.non_inv]
    refine .inl ⟨rfl, ?_⟩
    rw [r1.isNon]
    exact q _ _ (res_pure w fr (.bl _) (.inr rfl))
  · cases hg
/-! ### in -/
def D.flat? : D → Option V
  | .non => some .non
  | .bl b => some (.bl b)
  | .int i => some (.int i)
  | .str s => some (.str s)
  | _ => none
def flats : List D → Option (List V)
  | [] => some []
  | d :: r => match d.flat?, flats r with
    | some v, some vs => some (v :: vs)
    | _, _ => none
def strIn (i j : Str) : Bool := !(Builtin.Str.occurrences j i 0 j.length 1).isEmpty
/-- x in y: texts, flat things in a list or tuple, data in a list -/
def inB : D → D → Option Bool
  | .str i, .str j => some (strIn i j)
  | x, y => match x.flat?, y.items.bind flats with
    | some v, some vs => some (inV v vs)
    | _, _ => match x.py, y.py with
      | some d, some (.list ds) => if SeqAt.shaped d = true ∧ SeqAt.shaped (.list ds) = true then some (ds.any fun z => PyData.eqv z d) else none
      | _, _ => none
def gIn : List D → Option D
  | [x, y] => (inB x y).map .bl
  | _ => none
def gNotIn : List D → Option D
  | [x, y] => (inB x y).map fun b => .bl (!b)
  | _ => none
section
variable {K : PySem.W.Frag} {H : Hp} {lab : Labs}
theorem Rdv.flat {d : D} {v u : V} (h : Rdv K H lab d v) (e : d.flat? = some u) : v = u ∧ flatV u = true := by
  cases d <;> simp [D.flat?] at e <;> subst e
  · exact ⟨h.non_inv, rfl⟩
  · exact ⟨h.bl_inv, rfl⟩
  · exact ⟨h.int_inv, rfl⟩
  · exact ⟨h.str_inv, rfl⟩
theorem FrzL.flats : ∀ {ds : List D} {vs us : List V}, FrzL K H lab ds vs → flats ds = some us → vs = us ∧ us.all flatV = true
  | _, _, _, .nil, e => by cases e; exact ⟨rfl, rfl⟩
  | d :: r, _, us, .cons h t, e => by
    simp only [PV.flats] at e
    split at e
    · rename_i v vs e1 e2
      cases e
      obtain ⟨rfl, f1⟩ := Rdv.flat (.inl h) e1
      obtain ⟨rfl, f2⟩ := t.flats e2
      exact ⟨rfl, by simp [f1, f2]⟩
    · cases e
def rInA (K : PySem.W.Frag) : R2 := fun x y H Q => (∃ i j, x = .str i ∧ y = .str j ∧ Q (.bl (!(Builtin.Str.occurrences j i 0 j.length 1).isEmpty)) H) ∨ rIn K false x y H Q ∨ rInD K x y H Q
def rNotInA (K : PySem.W.Frag) : R2 := fun x y H Q => (∃ i j, x = .str i ∧ y = .str j ∧ Q (.bl (!(!(Builtin.Str.occurrences j i 0 j.length 1).isEmpty))) H) ∨ rIn K true x y H Q ∨ rNotInD K x y H Q
theorem op_inA {X : Cx} (hu : X.A.units + 65 < cLine) : OpR X (compareOp .In) (rInA X.K) := OpR.or op_in_str (OpR.or op_in_seq (op_inD hu))
theorem op_notInA {X : Cx} (hu : X.A.units + 65 < cLine) : OpR X (compareOp .NotIn) (rNotInA X.K) := OpR.or op_notin_str (OpR.or op_notIn_seq (op_notInD hu))
theorem inB_cases {x y : D} {v u : V} {b : Bool} (r1 : Rdv K H lab x v) (r2 : Rdv K H lab y u) (h : inB x y = some b) : (∃ i j, v = .str i ∧ u = .str j ∧ b = !(Builtin.Str.occurrences j i 0 j.length 1).isEmpty) ∨
    (∃ p xs, u = .ref p ∧ (SqL K H p xs ∨ SqT K H p xs) ∧ flatV v = true ∧ xs.all flatV = true ∧ b = inV v xs) ∨
    ∃ d ds, Dp K H v d ∧ Dp K H u (.list ds) ∧ SeqAt.shaped d = true ∧ SeqAt.shaped (.list ds) = true ∧ b = ds.any fun z => PyData.eqv z d := by
  unfold inB at h
  split at h
  · cases h
    exact .inl ⟨_, _, r1.str_inv, r2.str_inv, rfl⟩
  · split at h
    · rename_i w ws e1 e2
      cases h
      simp only [Option.bind_eq_some_iff] at e2
      obtain ⟨es, he, hf⟩ := e2
      obtain ⟨p, vs, rfl, hs, t⟩ := r2.seq he
      obtain ⟨rfl, f1⟩ := r1.flat e1
      obtain ⟨rfl, f2⟩ := t.flats hf
      exact .inr (.inl ⟨p, _, rfl, hs, f1, f2, rfl⟩)
    · split at h
      · rename_i d ds e1 e2
        split at h
        · rename_i hs
          cases h
          exact .inr (.inr ⟨d, ds, r1.dp e1, r2.dp e2, hs.1, hs.2, rfl⟩)
        · cases h
      · cases h
end
theorem in_ok {K : PySem.W.Frag} : OpOk K gIn true (b2 (rInA K)) := fun H lab k ds vs d Q w fr rd hg q => by
  unfold gIn at hg
  split at hg
  · simp only [Option.map_eq_some_iff] at hg
    obtain ⟨b, hb, rfl⟩ := hg
    obtain ⟨v, u, rfl, r1, r2⟩ := rd.two
    have q' := q (.bl b) _ (res_pure w fr (.bl _) (.inr rfl))
    rcases inB_cases r1 r2 hb with ⟨i, j, rfl, rfl, rfl⟩ | ⟨p, xs, rfl, hs, f1, f2, rfl⟩ | ⟨d, ds, h1, h2, h3, h4, rfl⟩
    · exact .inl ⟨i, j, rfl, rfl, q'⟩
    · exact .inr (.inl ⟨p, xs, rfl, hs, f1, f2, q'⟩)
    · exact .inr (.inr ⟨d, ds, h1, h2, h3, h4, q'⟩)
  · cases hg
theorem notIn_ok {K : PySem.W.Frag} : OpOk K gNotIn true (b2 (rNotInA K)) := fun H lab k ds vs d Q w fr rd hg q => by
  unfold gNotIn at hg
  split at hg
  · simp only [Option.map_eq_some_iff] at hg
    obtain ⟨b, hb, rfl⟩ := hg
    obtain ⟨v, u, rfl, r1, r2⟩ := rd.two
    have q' := q (.bl (!b)) _ (res_pure w fr (.bl _) (.inr rfl))
    rcases inB_cases r1 r2 hb with ⟨i, j, rfl, rfl, rfl⟩ | ⟨p, xs, rfl, hs, f1, f2, rfl⟩ | ⟨d, ds, h1, h2, h3, h4, rfl⟩
    · exact .inl ⟨i, j, rfl, rfl, q'⟩
    · exact .inr (.inl ⟨p, xs, rfl, hs, f1, f2, q'⟩)
    · exact .inr (.inr ⟨d, ds, h1, h2, h3, h4, q'⟩)
  · cases hg
/-! ### walks over what is looked at -/
/-- what a walk reads: nothing that the walk's own slots own -/
def fetchP (s : AS) : Nat ⊕ D → Option D
  | .inl i => match s[i]? with
    | some (some (d, n)) => if n = 1 then none else some d
    | _ => none
  | .inr d => some d
def fetchPs (s : AS) : List (Nat ⊕ D) → Option (List D)
  | [] => some []
  | x :: r => match fetchP s x, fetchPs s r with
    | some d, some ds => some (d :: ds)
    | _, _ => none
/-- a value that stays what it is -/
def PRdv (K : PySem.W.Frag) (H : Hp) (lab : Labs) (d : D) (v : V) : Prop := Rdv K H lab d v ∧ ∀ lab' H', Wf lab' H' → Step lab H lab' H' → Rdv K H' lab' d v
inductive PRdvs (K : PySem.W.Frag) (H : Hp) (lab : Labs) : List D → List V → Prop where
  | nil : PRdvs K H lab [] []
  | cons {d : D} {v : V} {ds : List D} {vs : List V} : PRdv K H lab d v → PRdvs K H lab ds vs → PRdvs K H lab (d :: ds) (v :: vs)
theorem frz_prdv {K : PySem.W.Frag} {H : Hp} {lab : Labs} {d : D} {v : V} (w : Wf lab H) (h : Frz K H lab d v) : PRdv K H lab d v := ⟨.inl h, fun _ _ w' st => .inl (Frz.stp w st h)⟩
theorem fetchP_ok {K : PySem.W.Frag} {H : Hp} {lab : Labs} {s : AS} {σ : L2.St} {i : Nat} {d : D} {v : V} (I : FI K H lab s σ) (e : fetchP s (.inl i) = some d) (hv : σ[i]? = some (some v)) : PRdv K H lab d v := by
  simp only [fetchP] at e
  split at e
  · rename_i d' n hs
    split at e
    · cases e
    · rename_i hn
      cases e
      obtain ⟨u, hu, r⟩ := I.sl i _ n hs
      rw [hv] at hu
      cases hu
      match n, r, hn with
      | 0, r, _ => exact frz_prdv I.wf r
      | n + 2, r, _ => exact ⟨.inr ⟨_, r⟩, fun _ _ w st => .inr ⟨.lent, Own.stp I.wf st (fun i (e : Lab.lent = Lab.slot i) => nomatch e) r⟩⟩
  · cases e
theorem fetchPs_ok {K : PySem.W.Frag} {H : Hp} {lab : Labs} {s : AS} {σ : L2.St} (I : FI K H lab s σ) : ∀ {xs : List (Nat ⊕ D)} {vs : List V} {ds : List D}, RelAs K H lab σ xs vs → fetchPs s xs = some ds → PRdvs K H lab ds vs
  | _, _, _, .nil, e => by cases e; exact .nil
  | .inl i :: r, _, ds, .vw hv t, e => by
    simp only [fetchPs] at e
    split at e
    · rename_i d es h1 h2
      cases e
      exact .cons (fetchP_ok I h1 hv) (fetchPs_ok I t h2)
    · cases e
  | .inr d :: r, _, ds, .ev h t, e => by
    simp only [fetchPs] at e
    split at e
    · rename_i d es h1 h2
      cases e
      cases h1
      exact .cons (frz_prdv I.wf h) (fetchPs_ok I t h2)
    · cases e
def ItP (K : PySem.W.Frag) (g : List D → Option (List D)) (r : List V → Hp → (It → Hp → Prop) → Prop) : Prop := ∀ (H : Hp) (lab : Labs) (ds : List D) (vs : List V) (is : List D) (R : It → Hp → Prop), Wf lab H → PRdvs K H lab ds vs → g ds = some is → (∀ J, ItOk K J lab H is → R J H) → r vs H R
/-- a walk over operands that are looked at -/
def fItP (g : List D → Option (List D)) (args : List Arg) : AI := fun s => match evArgs args s with
  | .ok xs s1 => (match fetchPs s1 xs with
    | some ds => (match g ds with
      | some is => .ok is s1
      | none => .no)
    | none => .no)
  | .ex x s1 => .ex x s1
  | .no => .no
section
variable {X : Cx} {W : WX} {tg : Expr}
theorem itP_ok {g : List D → Option (List D)} {r : List V → Hp → (It → Hp → Prop) → Prop} {args : List Arg} (h : ItP X.K g r) {σ : L2.St} {H : Hp} {R : It → Hp → Prop} (t : tIv X.K X.mg W (fItP g args) σ H R) : tArgs X.K X.mg W args σ H fun vs H1 => r vs H1 R := by
  obtain ⟨lab, sa, k, I, f, t⟩ := t
  refine args_ok args I f ?_
  simp only [fItP] at t
  cases he : evArgs args sa with
  | ok xs s =>
    rw [he] at t
    simp only at t
    intro vs H' lab' I' st f' rel
    cases hf : fetchPs s xs with
    | none => rw [hf] at t; exact t.elim
    | some ds =>
      rw [hf] at t
      simp only at t
      cases hg : g ds with
      | none => rw [hg] at t; exact t.elim
      | some is =>
        rw [hg] at t
        exact h H' lab' ds vs is R I'.wf (fetchPs_ok I' rel hf) hg fun J it => t J H' lab' I' st f' it
  | ex x s => rw [he] at t; exact t
  | no => rw [he] at t; exact t
end
/-! enumerate, zip, reversed, range with a step -/
def gEnum : List D → Option (List D)
  | [d] => d.items?.map fun ds => (List.range ds.length).map fun i => .tup [.int (i : Nat), ds.getD i .non]
  | _ => none
def zipD : List D → List D → List D
  | x :: xs, y :: ys => .tup [x, y] :: zipD xs ys
  | _, _ => []
def gZip : List D → Option (List D)
  | [.tup xs, .tup ys] => some (zipD xs ys)
  | [x, y] => match x.items?, y.items? with
    | some xs, some ys => some (zipD xs ys)
    | _, _ => none
  | _ => none
def gRev : List D → Option (List D)
  | [d] => d.items?.map List.reverse
  | _ => none
section
variable {K : PySem.W.Frag} {H : Hp} {lab : Labs}
theorem grow_tup {p : Addr} {vs : List V} (w : Wf lab H) (hp : H p = none) : Grow lab H lab (upd H p (.tup vs)) ∧ Wf lab (upd H p (.tup vs)) := by
  have hl : lab p = .no := by
    by_cases e : lab p = .no
    · exact e
    · have := w p e
      rw [hp] at this
      exact this.elim
  refine ⟨fun a o e => ?_, fun a e => ?_⟩
  · by_cases q : a = p
    · rw [q, hp] at e; cases e
    · exact ⟨by rw [upd_ne q]; exact e, rfl⟩
  · by_cases q : a = p
    · rw [q] at e; exact absurd hl e
    · rw [upd_ne q]; exact w a e
theorem pair_frz {p : Addr} {x y : V} {d e : D} (w : Wf lab H) (hp : H p = none) (h1 : Frz K H lab d x) (h2 : Frz K H lab e y) : Grow lab H lab (upd H p (.tup [x, y])) ∧ Wf lab (upd H p (.tup [x, y])) ∧ Frz K (upd H p (.tup [x, y])) lab (.tup [d, e]) (.ref p) := by
  obtain ⟨g, w'⟩ := grow_tup (vs := [x, y]) w hp
  exact ⟨g, w', .tup upd_same (.cons (Frz.stp w g.step h1) (.cons (Frz.stp w g.step h2) .nil))⟩
theorem ite_ok {a : Addr} {d : D} {ds : List D} (h : PRdv K H lab d (.ref a)) (e : d.items? = some ds) : ItOk K (Ite K a) lab H ((List.range ds.length).map fun i => .tup [.int (i : Nat), ds.getD i .non]) := fun lab' H' w st i => by
  obtain ⟨a', vs, e', hs, t⟩ := (h.2 lab' H' w st).seqL e
  cases e'
  refine ⟨fun x hx => ?_, fun hx => ⟨vs, hs, ?_⟩⟩
  · simp only [List.getElem?_map, Option.map_eq_some_iff] at hx
    obtain ⟨j, hj, rfl⟩ := hx
    have hi : i < ds.length := by
      have := (List.getElem?_eq_some_iff.mp hj).1
      simpa using this
    rw [List.getElem?_range hi] at hj
    cases hj
    have hd : ds[i]? = some (ds.getD i .non) := by
      rw [List.getD_eq_getElem?_getD, List.getElem?_eq_getElem hi]; rfl
    obtain ⟨v, hv, r⟩ := t.get hd
    refine ⟨⟨vs, v, hs, hv⟩, fun y H'' hy => ?_⟩
    obtain ⟨T, x, rfl, hT, rfl, hy⟩ := hy
    have := hy vs hs
    rw [hv] at this
    cases this
    exact pair_frz w hT (.int _) r
  · rw [← t.length]
    simp only [List.getElem?_map, Option.map_eq_none_iff] at hx
    simpa using hx
theorem zipD_get : ∀ {xs ys : List D} {i : Nat} {d : D}, (zipD xs ys)[i]? = some d → ∃ x y, xs[i]? = some x ∧ ys[i]? = some y ∧ d = .tup [x, y]
  | [], _, i, d, h => by simp [zipD] at h
  | _ :: _, [], i, d, h => by simp [zipD] at h
  | x :: xs, y :: ys, 0, d, h => by
    simp [zipD] at h
    exact ⟨x, y, rfl, rfl, h.symm⟩
  | x :: xs, y :: ys, i + 1, d, h => by
    obtain ⟨u, v, h1, h2, h3⟩ := zipD_get (xs := xs) (ys := ys) (i := i) (by simpa [zipD] using h)
    exact ⟨u, v, by simpa using h1, by simpa using h2, h3⟩
theorem zipD_len : ∀ {xs ys : List D}, (zipD xs ys).length = min xs.length ys.length
  | [], _ => by simp [zipD]
  | _ :: _, [] => by simp [zipD]
  | x :: xs, y :: ys => by simp [zipD, zipD_len (xs := xs) (ys := ys)]
theorem itz_ok {a b : Addr} {d e : D} {xs ys : List D} (h : PRdv K H lab d (.ref a)) (h' : PRdv K H lab e (.ref b)) (e1 : d.items? = some xs) (e2 : e.items? = some ys) : ItOk K (Itz K a b) lab H (zipD xs ys) := fun lab' H' w st i => by
  obtain ⟨_, vs, e', hs, t⟩ := (h.2 lab' H' w st).seqL e1
  cases e'
  obtain ⟨_, us, e', hs', t'⟩ := (h'.2 lab' H' w st).seqL e2
  cases e'
  refine ⟨fun x hx => ?_, fun hx => ⟨vs, us, hs, hs', ?_⟩⟩
  · obtain ⟨x1, y1, h1, h2, rfl⟩ := zipD_get hx
    obtain ⟨v, hv, r⟩ := t.get h1
    obtain ⟨u, hu, r'⟩ := t'.get h2
    refine ⟨⟨vs, us, v, u, hs, hs', hv, hu⟩, fun y H'' hy => ?_⟩
    obtain ⟨T, x, y, rfl, hT, rfl, hx2, hy2⟩ := hy
    have q1 := hx2 vs hs
    have q2 := hy2 us hs'
    rw [hv] at q1
    rw [hu] at q2
    cases q1
    cases q2
    exact pair_frz w hT r r'
  · rw [← t.length, ← t'.length]
    have := List.getElem?_eq_none_iff.mp hx
    rw [zipD_len] at this
    omega
theorem itzT_ok {a b : Addr} {xs ys : List D} (h : PRdv K H lab (.tup xs) (.ref a)) (h' : PRdv K H lab (.tup ys) (.ref b)) : ItOk K (RZ.ItzT K a b) lab H (zipD xs ys) := fun lab' H' w st i => by
  obtain ⟨_, vs, e', hs, t⟩ := (h.2 lab' H' w st).tup_inv
  cases e'
  obtain ⟨_, us, e', hs', t'⟩ := (h'.2 lab' H' w st).tup_inv
  cases e'
  refine ⟨fun x hx => ?_, fun hx => ⟨vs, us, hs, hs', ?_⟩⟩
  · obtain ⟨x1, y1, h1, h2, rfl⟩ := zipD_get hx
    obtain ⟨v, hv, r⟩ := t.get h1
    obtain ⟨u, hu, r'⟩ := t'.get h2
    refine ⟨⟨vs, us, v, u, hs, hs', hv, hu⟩, fun y H'' hy => ?_⟩
    obtain ⟨T, x, y, rfl, hT, rfl, hx2, hy2⟩ := hy
    have q1 := hx2 vs hs
    have q2 := hy2 us hs'
    rw [hv] at q1
    rw [hu] at q2
    cases q1
    cases q2
    exact pair_frz w hT r r'
  · rw [← t.length, ← t'.length]
    have := List.getElem?_eq_none_iff.mp hx
    rw [zipD_len] at this
    omega
theorem itv_ok {a : Addr} {d : D} {ds : List D} (h : PRdv K H lab d (.ref a)) (e : d.items? = some ds) : ItOk K (Itv K a ds.length) lab H ds.reverse := fun lab' H' w st i => by
  obtain ⟨a', vs, e', hs, t⟩ := (h.2 lab' H' w st).seqL e
  cases e'
  refine ⟨fun x hx => ?_, fun hx => ?_⟩
  · have hi : i < ds.length := by
      have := (List.getElem?_eq_some_iff.mp hx).1
      simpa using this
    rw [List.getElem?_reverse hi] at hx
    obtain ⟨v, hv, r⟩ := t.get hx
    refine ⟨⟨hi, vs, v, hs, hv⟩, fun y H'' hy => ?_⟩
    obtain ⟨rfl, hy⟩ := hy
    have := hy vs hs
    rw [hv] at this
    cases this
    exact ⟨Grow.refl _ _, w, r⟩
  · show ds.length ≤ i
    simpa using hx
end
section
variable {X : Cx} {W : WX} {tg : Expr}
theorem mi_enum {e : Expr} {A : Arg} {p pos tpos : Pos} {elts : List Expr} {kk : Nat} (hm : X.mg "enumerate" = none) (ha : MA X W e A) (hg : Gl X "enumerate" := by rfl) (hs : starEach [e] X.env = [(false, eval e X.env)] := by rfl) : MI X W (.Tuple elts kk tpos) (.Call (.Name "enumerate" p) [e] [] pos) (fItP gEnum [A]) :=
  pi_mono (pi_enum hg hm (mas_cons ha mas_nil hs) hs) fun σ H R t => itP_ok (r := fun vs H1 R => ∃ a xs, vs = [.ref a] ∧ SqL X.K H1 a xs ∧ R (Ite X.K a) H1) (fun H lab ds vs is R w f hg q => by
    unfold gEnum at hg
    split at hg
    · simp only [Option.map_eq_some_iff] at hg
      obtain ⟨es, he, rfl⟩ := hg
      cases f with
      | cons h t =>
        cases t
        obtain ⟨a, vs, rfl, hs, _⟩ := h.1.seqL he
        exact ⟨a, vs, rfl, hs, q _ (ite_ok h he)⟩
    · cases hg) t
theorem mi_rev {e : Expr} {A : Arg} {p pos : Pos} (hm : X.mg "reversed" = none) (ha : MA X W e A) (hg : Gl X "reversed" := by rfl) (hs : starEach [e] X.env = [(false, eval e X.env)] := by rfl) : MI X W tg (.Call (.Name "reversed" p) [e] [] pos) (fItP gRev [A]) :=
  pi_mono (pi_reversed hg hm (mas_cons ha mas_nil hs) hs) fun σ H R t => itP_ok (r := fun vs H1 R => ∃ (a : Addr) (xs : List V), vs = [.ref a] ∧ SqL X.K H1 a xs ∧ R (Itv X.K a xs.length) H1) (fun H lab ds vs is R w f hg q => by
    unfold gRev at hg
    split at hg
    · simp only [Option.map_eq_some_iff] at hg
      obtain ⟨es, he, rfl⟩ := hg
      cases f with
      | cons h t =>
        cases t
        obtain ⟨a, vs, rfl, hs, t⟩ := h.1.seqL he
        refine ⟨a, vs, rfl, hs, ?_⟩
        rw [← t.length]
        exact q _ (itv_ok h he)
    · cases hg) t
theorem mi_zip {e e2 : Expr} {A B : Arg} {p pos tpos : Pos} {elts : List Expr} {kk : Nat} (hm : X.mg "zip" = none) (ha : MA X W e A) (hb : MA X W e2 B) (hg : Gl X "zip" := by rfl) (hs : starEach [e, e2] X.env = (false, eval e X.env) :: starEach [e2] X.env := by rfl) (hs2 : starEach [e2] X.env = [(false, eval e2 X.env)] := by rfl) (hpl : (backTo pos (starEach [e2] X.env)).any (·.1) = false := by rfl) : MI X W (.Tuple elts kk tpos) (.Call (.Name "zip" p) [e, e2] [] pos) (fItP gZip [A, B]) :=
  pi_mono (RZ.pi_zipA hg hm (pa_cons ha (pa_cons hb pa_nil hs2) hs) hs hpl) fun σ H R t => itP_ok (r := fun vs H1 R => ∃ a b xs ys, vs = [.ref a, .ref b] ∧ ((SqL X.K H1 a xs ∧ SqL X.K H1 b ys ∧ R (Itz X.K a b) H1) ∨ (SqT X.K H1 a xs ∧ SqT X.K H1 b ys ∧ R (RZ.ItzT X.K a b) H1))) (fun H lab ds vs is R w f hg q => by
    unfold gZip at hg
    split at hg
    · cases hg
      cases f with
      | cons h t =>
        cases t with
        | cons h' t =>
          cases t
          obtain ⟨a, xs, rfl, hs, _⟩ := h.1.tup_inv
          obtain ⟨b, ys, rfl, hs', _⟩ := h'.1.tup_inv
          exact ⟨a, b, xs, ys, rfl, .inr ⟨hs, hs', q _ (itzT_ok h h')⟩⟩
    · split at hg
      · rename_i xs ys e1 e2
        cases hg
        cases f with
        | cons h t =>
          cases t with
          | cons h' t =>
            cases t
            obtain ⟨a, xs, rfl, hs, _⟩ := h.1.seqL e1
            obtain ⟨b, ys, rfl, hs', _⟩ := h'.1.seqL e2
            exact ⟨a, b, xs, ys, rfl, .inl ⟨hs, hs', q _ (itz_ok h h' e1 e2)⟩⟩
      · cases hg
    · cases hg) t
def gRng3 (ds : List D) : Option (List D) := match ds with
  | [.int a, .int b, .int c] => if c ≠ 0 ∧ c.natAbs < 1073741824 ∧ Builtin.Range.small a b c = true ∧ 0 ≤ Builtin.Range.rangeSize a b c then some ((List.range (Builtin.Range.rangeSize a b c).toNat).map fun i => .int (a + (i : Nat) * c)) else none
  | _ => none
theorem mi_range3 {a b c : Expr} {A B C : Arg} {p pos : Pos} (hm : X.mg "range" = none) (ha : MA X W a A) (hb : MA X W b B) (hc : MA X W c C) (hg : Gl X "range" := by rfl) (hs : starEach [a, b, c] X.env = (false, eval a X.env) :: starEach [b, c] X.env := by rfl) (hs2 : starEach [b, c] X.env = (false, eval b X.env) :: starEach [c] X.env := by rfl) (hs3 : starEach [c] X.env = [(false, eval c X.env)] := by rfl) (hpl : (backTo pos (starEach [b, c] X.env)).any (·.1) = false := by rfl) : MI X W tg (.Call (.Name "range" p) [a, b, c] [] pos) (fItF gRng3 [A, B, C]) :=
  pi_mono (pi_range3 hg hm (pa_cons ha (pa_cons hb (pa_cons hc pa_nil hs3) hs2) hs) hs hpl) fun σ H R t => itF_ok (r := fun vs H R => ∃ (i j c : Int) (n : Nat), vs = [.int i, .int j, .int c] ∧ RgC i j c n ∧ R (Itc i c n) H) (fun H lab ds vs is R w f hg q => by
    unfold gRng3 at hg
    split at hg
    · rename_i a b c
      split at hg
      · rename_i hb
        cases hg
        cases f with
        | cons h t =>
          cases t with
          | cons h' t =>
            cases t with
            | cons h'' t =>
              cases t
              rw [h.int_inv, h'.int_inv, h''.int_inv]
              refine ⟨a, b, c, (Builtin.Range.rangeSize a b c).toNat, rfl, ⟨hb.1, hb.2.1, hb.2.2.1, ?_⟩, q _ ?_⟩
              · rw [Int.toNat_of_nonneg hb.2.2.2]
              · intro lab' H' w st i
                refine ⟨fun x hx => ?_, fun hx => ?_⟩
                · simp only [List.getElem?_map, Option.map_eq_some_iff] at hx
                  obtain ⟨j, hj, rfl⟩ := hx
                  obtain ⟨h1, h2⟩ := List.getElem?_eq_some_iff.mp hj
                  simp at h1 h2
                  subst h2
                  exact ⟨by show i < _; simpa using h1, fun y H'' hy => by obtain ⟨rfl, rfl⟩ := hy; exact ⟨Grow.refl _ _, w, .int _⟩⟩
                · show _ ≤ i
                  simpa using hx
      · cases hg
    · cases hg) t
end
end PV
/-! PV 14: sorted; extend; the list turned round -/
namespace PV
open PySem PySem.Spec PyProof.Rows L2
section
variable {prog : Program} {w : World} {A : Around} {E : Value → Shared → Prop} {s : Shared}
/-- what is collected of a tuple -/
theorem coll_tup {p : Addr} {us : List Value} {Q : List Value → Shared → Prop} (ht : s.heap.IsTuple p us.toArray) (fit : us.length ≤ sizeLine)
    (q : Q us { s with heap := (s.heap.push (seqObj "list" #[] 0)).update s.heap.objs.size (Obj.mapSeq (· ++ us.toArray)) }) : wpAny (model prog w) A (collect (.ref p)) Q E s := by
  obtain ⟨ob, hob, hcl, m, hdt⟩ := _root_.id ht
  unfold collect; refine wpAny_bind (wpAny_runValue (codeAny_builtin entry_proto_collect' ?_))
  show wpAny _ _ (do again (.builtin "list.__iadd__" ⟨[← newList [], .ref p], []⟩)) _ _ s
  refine wpAny_bind (wpAny_newList (wpAny_pure ⟨Code.quiet_builtin _ (by decide +kernel), codeAny_builtin entry_list_iadd' ?_⟩))
  show wpAny _ _ (Builtin.List.listExtendWith (.ref s.heap.objs.size) (.ref p) (.ref s.heap.objs.size)) _ _ { s with heap := s.heap.push (seqObj "list" #[] 0) }
  unfold Builtin.List.listExtendWith
  have old : (s.heap.push (seqObj "list" #[] 0)).get? p = some ob := Heap.get?_push_of_some _ hob
  refine wpAny_bind (wpAny_typeOf (T := "tuple") ⟨ob, old, hcl⟩ ?_)
  have two : (Value.type "tuple" == Value.type "tuple") = true := by rfl
  rw [if_pos (by rw [two]; simp)]
  refine wpAny_bind (listItems_at old hdt ?_); refine wpAny_bind (listItems_at (xs := #[]) (n := 0) (Heap.get?_push_size _ rfl) rfl ?_)
  rw [if_neg (by simp)]
  refine wpAny_bind (listUpdate_at (n := 0) (xs := #[]) (Heap.get?_push_size _ rfl) rfl ?_ (Nat.zero_le _) (by show (#[] ++ us.toArray).size ≤ sizeLine + 1; simp only [Array.size_append, List.size_toArray, List.length_nil]; omega))
  refine wpAny_pure ?_
  show wpAny (model prog w) A (do let o ← load s.heap.objs.size; match o.data with | .seq xs _ => pure xs.toList | _ => unsupported "internal:collect") Q E { s with heap := (s.heap.push (seqObj "list" #[] 0)).update s.heap.objs.size (Obj.mapSeq (· ++ us.toArray)) }
  refine wpAny_bind (wpAny_load (get?_update_seq (Heap.get?_push_size _ rfl) _) ?_)
  show wpAny _ _ (pure ((#[] : Array Value) ++ us.toArray).toList) Q E _
  have e : ((#[] : Array Value) ++ us.toArray).toList = us := by simp
  rw [e]; exact wpAny_pure q
/-- sorted(a tuple) -/
theorem sorted_tup {p : Addr} {us : List Value} {lt : Value → Value → Bool} {Q : Value → Shared → Prop} (O : SrtO.Swo lt) (ht : s.heap.IsTuple p us.toArray) (fit : us.length ≤ sizeLine)
    (can : 2 ≤ us.length → ∀ (h1 : Heap) (a : Addr), h1.get? a = some (seqObj "list" us.toArray 0) → (∀ b o, s.heap.get? b = some o → b ≠ a ∧ h1.get? b = some o) → SrtO.SortableO prog w A.in1.in1 { s with heap := h1 } a us lt)
    (q : ∀ out : List Value, SrtO.Srtd lt out → SrtO.Stb lt out us → Q (.ref (s.heap.objs.size + 1)) { s with heap := sortedAll s.heap us out.toArray }) : wpAny (model prog w) A (call (.builtin "sorted") [.ref p]) Q E s := by
  refine Calls.call_function_entry kind_sorted plain_sorted entry_sorted (args_sorted1 _) ?_
  unfold Builtin.«sorted»; refine wpAny_bind (m := checkCount "sorted" 1 1 _) (wpAny_pure ?_); refine wpAny_bind (coll_tup ht fit ?_); refine wpAny_bind (wpAny_newList ?_ fit)
  have sz : ((s.heap.push (seqObj "list" #[] 0)).update s.heap.objs.size (Obj.mapSeq (· ++ us.toArray))).objs.size = s.heap.objs.size + 1 := by rw [Heap.size_update, size_push']
  have at1 : (((s.heap.push (seqObj "list" #[] 0)).update s.heap.objs.size (Obj.mapSeq (· ++ us.toArray))).push (seqObj "list" us.toArray 0)).get? (s.heap.objs.size + 1) = some (seqObj "list" us.toArray 0) := by rw [← sz]; exact Heap.get?_push_size _ rfl
  have stay : ∀ b o, s.heap.get? b = some o → b ≠ s.heap.objs.size + 1 ∧ (((s.heap.push (seqObj "list" #[] 0)).update s.heap.objs.size (Obj.mapSeq (· ++ us.toArray))).push (seqObj "list" us.toArray 0)).get? b = some o := fun b o e => by
    have less : b < s.heap.objs.size := Heap.lt_size e
    exact ⟨Nat.ne_of_lt (Nat.lt_succ_of_lt less), Heap.get?_push_of_some _ (by rw [Heap.get?_update_ne _ _ _ _ (Nat.ne_of_lt less)]; exact Heap.get?_push_of_some _ e)⟩
  show wpAny _ _ _ _ _ { s with heap := ((s.heap.push (seqObj "list" #[] 0)).update s.heap.objs.size (Obj.mapSeq (· ++ us.toArray))).push (seqObj "list" us.toArray 0) }
  rw [sz]
  refine wpAny_bind (wpAny_holding (wpAny_call_entry slot_list_sort ⟨_, at1, rfl⟩ entry_list_sort (SrtO.list_sort_ord O at1 fit (fun h2 => can h2 _ _ at1 stay) fun out h1 h2 => ⟨_, rfl, ?_⟩) (args_list_sort _)))
  exact wpAny_pure ⟨_, rfl, q out h1 h2⟩
end
/-- sorted(ints), a list or a tuple -/
def rSortedA (K : PySem.W.Frag) : List V → Hp → VK → Prop := fun vs H Q => ∃ (a : Addr) (ns : List Int), vs = [V.ref a] ∧ (SqL K H a (ns.map V.int) ∨ SqT K H a (ns.map V.int)) ∧
  ∀ (ms : List Int) (p : Addr), ms.Perm ns → ms.Pairwise (· ≤ ·) → H p = none → Q (.ref p) (upd H p (.lst (ms.map V.int)))
theorem cr_sortedA {X : Cx} : CallR X (.builtin "sorted") (rSortedA X.K) := by
  intro pins s σ H vs us Q I r h
  obtain ⟨a, ns, rfl, hs | hs, q⟩ := h
  · exact cr_sortedI pins s σ H _ us Q I r ⟨a, ns, rfl, hs, q⟩
  · obtain ⟨its, rv, hl, hz⟩ := I.tuple hs
    rw [Vals.ref1 r]; have ia := rv.ints
    refine sorted_tup SrtO.swo_int hl (by rw [← rv.length]; exact hz) (fun h2 _ _ _ _ => SrtO.ints_sortable ia h2) fun out h1 h2 => ?_
    obtain ⟨k1, k2, k3⟩ := SrtO.ints_out ia h1 h2
    obtain ⟨ep, there⟩ := PyProof.Rows.sortedAll_at s.heap its out.toArray
    have fits : ((out.map SrtO.iv).map V.int).length ≤ sizeLine := by rw [List.length_map, k2.length_eq]; rw [List.length_map] at hz; exact hz
    exact ⟨.ref _, upd H (s.heap.objs.size + 1) (.lst ((out.map SrtO.iv).map V.int)), I.laid (t' := s.toks) (fun _ _ => PyProof.Rows.sortedAll_old) (Nat.le_succ _) ⟨fits, out, ep, vals_of_ints k1, there⟩, rfl, q _ _ k2 k3 (I.hok.fresh (Nat.le_succ _))⟩
/-- ints in their order -/
def srt (ns : List Int) : List Int := ns.mergeSort (fun a b => decide (a ≤ b))
theorem srt_perm (ns : List Int) : (srt ns).Perm ns := List.mergeSort_perm _ _
theorem srt_le (ns : List Int) : (srt ns).Pairwise (· ≤ ·) := by
  have := List.pairwise_mergeSort (le := fun a b : Int => decide (a ≤ b)) (fun a b c h1 h2 => by simp at *; omega) (fun a b => by simp; omega) ns
  exact this.imp fun h => by simpa using h
theorem srt_uniq {ns ms : List Int} (p : ms.Perm ns) (l : ms.Pairwise (· ≤ ·)) : ms = srt ns :=
  (p.trans (srt_perm ns).symm).eq_of_pairwise (fun a b _ _ h1 h2 => by omega) l (srt_le ns)
def gSorted : List D → Option D
  | [d] => d.items.bind fun ds => (intsOf ds).map fun ns => .lst ((srt ns).map D.int)
  | _ => none
theorem ints_frzL {K : PySem.W.Frag} {H : Hp} {lab : Labs} : ∀ ns : List Int, FrzL K H lab (ns.map D.int) (ns.map V.int)
  | [] => .nil
  | i :: r => .cons (.int i) (ints_frzL r)
theorem sorted_ok {K : PySem.W.Frag} : OpOk K gSorted true (rSortedA K) := fun H lab k ds vs d Q w fr rd hg q => by
  unfold gSorted at hg
  split at hg
  · simp only [Option.bind_eq_some_iff, Option.map_eq_some_iff] at hg
    obtain ⟨es, he, ns, hn, rfl⟩ := hg
    obtain ⟨v, rfl, r⟩ := rd.one
    obtain ⟨a, vs, rfl, hs, t⟩ := r.seq he
    rw [t.ints hn] at hs
    refine ⟨a, ns, rfl, hs, fun ms p h1 h2 hp => ?_⟩
    rw [srt_uniq h1 h2]
    exact q _ _ (res_obj w fr hp (.lst _ _) (ints_frzL _))
  · cases hg
/-! extend -/
def gExtend : D → List D → Option (D × D)
  | .lst xs, [.lst ys] => if xs.length + ys.length ≤ 16000000 then some (.lst (xs ++ ys), .non) else none
  | _, _ => none
theorem extend_ok {K : PySem.W.Frag} : MutOk K gExtend rExtend := fun H lab a o d cs ws ds vs d' e Q w ha hl sh t ht hg q => by
  unfold gExtend at hg
  split at hg
  · split at hg
    · rename_i hz
      cases hg
      cases sh
      cases ht with
      | cons h1 t1 =>
        cases t1
        obtain ⟨b, us, rfl, hb, tb⟩ := (show Rdv K H lab _ _ from .inl h1).lst_inv
        exact ⟨a, b, ws, us, rfl, rfl, ha, hb, by rw [← t.length, ← tb.length, sizeLine_eq]; omega, q _ _ _ _ (.lst _ _) (t.append tb) .non⟩
    · cases hg
  · cases hg
section
variable {X : Cx} {W : WX}
theorem me_extend {e o : Expr} {i : Nat} {n : Bool} {f : AE} {apos cpos : Pos} (ho : PE X o (tVar i)) (he : ME X W e n f) (hbase : attributeBase o "extend" X.env (eval o X.env) = eval o X.env := by rfl) (hfew : ((backTo cpos (starEach [e] X.env)).all (fun x => !x.1) && (backToKw cpos (keywordEach [] X.env)).all (fun x => x.1.isSome) && decide ([e].length + ([] : List Keyword).length + (if ([] : List Keyword).isEmpty then 0 else 1) < 30)) = true := by rfl) (hline : (apos.endLine == cpos.line) = true := by rfl)
    (hs : starEach [e] X.env = (false, eval e X.env) :: starEach [] X.env := by rfl) (hplain : (backTo cpos (starEach [] X.env)).any (·.1) = false := by rfl) : ME X W (.Call (.Attribute o "extend" apos) [e] [] cpos) false (fMut .list i gExtend [.ev n f]) :=
  pe_mono (pe_bm PySem.F.plainAttrs_list PySem.F.slot_list_extend PySem.F.type_list_extend mt_extend ho (pa_cons (ma_ev he) pa_nil hs) hbase hfew hline hs hplain) fun σ H Q t => mut_ok (T := .list) (fun d ds x h => by
    unfold gExtend at h
    split at h
    · rfl
    · cases h) extend_ok t
/-! xs[::-1], a list -/
def gRevL : List D → Option D
  | [d] => d.items?.map fun ds => .lst ds.reverse
  | _ => none
theorem FrzL.rev {K : PySem.W.Frag} {H : Hp} {lab : Labs} : ∀ {ds : List D} {vs : List V}, FrzL K H lab ds vs → FrzL K H lab ds.reverse vs.reverse
  | _, _, .nil => .nil
  | _, _, .cons h t => by
    rw [List.reverse_cons, List.reverse_cons]
    exact t.rev.append (.cons h .nil)
theorem me_revL {e : Expr} {A : Arg} {k : Nat} {p1 p2 p3 pos : Pos} (he : MA X W e A) : ME X W (.Subscript e (.Slice none none (some (.UnaryOp .USub (.Constant (.int 1) k p1) p2)) p3) pos) true (fAp gRevL [A]) :=
  pe_mono (pe_revL he) fun σ H Q t => ap_ok (r := fun vs H Q => match vs with
    | [x] => ∃ a xs, x = .ref a ∧ SqL X.K H a xs ∧ ∀ p, H p = none → Q (.ref p) (upd H p (.lst xs.reverse))
    | _ => False) (fun H lab k ds vs d Q w fr rd hg q => by
      unfold gRevL at hg
      split at hg
      · simp only [Option.map_eq_some_iff] at hg
        obtain ⟨es, he, rfl⟩ := hg
        obtain ⟨v, rfl, r⟩ := rd.one
        obtain ⟨a, vs, rfl, hs, t⟩ := r.seqL he
        exact ⟨a, vs, rfl, hs, fun p hp => q _ _ (res_obj w fr hp (.lst _ _) t.rev)⟩
      · cases hg) t
end
end PV
/-! PV 15: methods of texts -/
namespace PV
open PySem PySem.Spec PyProof.Rows L2
/-- an expression that gives a text -/
def fStr (f : AE) : AE := fun s => match f s with
  | .ok (.str i) s1 => .ok (.str i) s1
  | .ex x s1 => .ex x s1
  | _ => .no
section
variable {K : PySem.W.Frag} {mg : Str → Option Value} {W : WX}
theorem tEv_str {f : AE} {n : Bool} {σ : L2.St} {H : Hp} {Q : VK} (t : tEv K mg W n (fStr f) σ H Q) : tEv K mg W n f σ H fun v H1 => (∃ i, v = .str i) ∧ Q v H1 := by
  obtain ⟨lab, sa, k, I, fr, t⟩ := t
  refine ⟨lab, sa, k, I, fr, ?_⟩
  simp only [fStr] at t
  cases hf : f sa with
  | ok d s =>
    rw [hf] at t
    cases d <;> first | exact t.elim | skip
    exact fun v H' lab' I' st f' r => ⟨⟨_, r.rdv.str_inv⟩, t v H' lab' I' st f' r⟩
  | ex x s => rw [hf] at t; exact t
  | no => rw [hf] at t; exact t
theorem txt1_ok {g : List D → Option D} {m n : Bool} {r : V → List V → Hp → VK → Prop} {f : AE} {A : Arg} (hk : OpOk K g m (fun vs H Q => match vs with
    | [x, y] => r x [y] H Q
    | _ => False)) {σ : L2.St} {H : Hp} {Q : VK} (t : tEv K mg W m (fAp g [.ev n (fStr f), A]) σ H Q) : tM1 r (tEv K mg W n f) (tArg K mg W A) σ H Q := by
  have h := ap_ok hk t
  have h2 : tEv K mg W n f σ H fun x H1 => (∃ i, x = .str i) ∧ _ := tEv_str h
  refine tEv_mono h2 fun x H1 h => ⟨h.1, ?_⟩
  exact tArg_mono (a := A) h.2 fun y H2 h => h
theorem txt0_ok {g : List D → Option D} {m n : Bool} {r : V → List V → Hp → VK → Prop} {f : AE} (hk : OpOk K g m (fun vs H Q => match vs with
    | [x] => r x [] H Q
    | _ => False)) {σ : L2.St} {H : Hp} {Q : VK} (t : tEv K mg W m (fAp g [.ev n (fStr f)]) σ H Q) : tM0 r (tEv K mg W n f) σ H Q := by
  have h := ap_ok hk t
  have h2 : tEv K mg W n f σ H fun x H1 => (∃ i, x = .str i) ∧ _ := tEv_str h
  exact tEv_mono h2 fun x H1 h => ⟨h.1, h.2⟩
end
def strsOf : List D → Option (List Str)
  | [] => some []
  | .str i :: r => (strsOf r).map (i :: ·)
  | _ :: _ => none
theorem strsOf_map : ∀ ns : List Str, strsOf (ns.map D.str) = some ns
  | [] => rfl
  | i :: r => by simp [strsOf, strsOf_map r]
theorem FrzL.strs {K : PySem.W.Frag} {H : Hp} {lab : Labs} : ∀ {ds : List D} {vs : List V} {ns : List Str}, FrzL K H lab ds vs → strsOf ds = some ns → vs = ns.map V.str
  | _, _, _, .nil, e => by cases e; rfl
  | d :: r, _, ns, .cons h t, e => by
    cases d <;> simp only [strsOf, reduceCtorEq] at e
    simp only [Option.map_eq_some_iff] at e
    obtain ⟨ms, e, rfl⟩ := e
    rw [t.strs e, (show Rdv K H lab _ _ from .inl h).str_inv]
    rfl
def gJoin : List D → Option D
  | [.str a, d] => d.items.bind fun ds => (strsOf ds).bind fun ys => if (ys.map (·.length)).sum + ys.length * a.length ≤ 16777216 then some (.str (Txt.join a ys)) else none
  | _ => none
section
variable {X : Cx} {W : WX}
theorem me_join {o e : Expr} {n : Bool} {f : AE} {A : Arg} {apos pos : Pos} (ho : ME X W o n f) (he : MA X W e A) (hs : starEach [e] X.env = [(false, eval e X.env)] := by rfl) (hbase : attributeBase o "join" X.env (eval o X.env) = eval o X.env := by rfl) (hline : (apos.endLine == pos.line) = true := by rfl) : ME X W (.Call (.Attribute o "join" apos) [e] [] pos) true (fAp gJoin [.ev n (fStr f), A]) :=
  pe_mono (pe_join ho he hs hbase hline) fun σ H Q t => txt1_ok (fun H lab k ds vs d Q w fr rd hg q => by
    unfold gJoin at hg
    split at hg
    · simp only [Option.bind_eq_some_iff] at hg
      obtain ⟨es, he, ys, hy, hg⟩ := hg
      split at hg
      · rename_i hz
        cases hg
        obtain ⟨v, u, rfl, r1, r2⟩ := rd.two
        obtain ⟨p, vs, rfl, hs, t⟩ := r2.seq he
        rw [t.strs hy] at hs
        exact ⟨_, p, ys, r1.str_inv, rfl, hs, hz, q _ _ (res_pure w fr (.str _) (.inr rfl))⟩
      · cases hg
    · cases hg) t
end
end PV
/-! PV 16: sum, max, min, all, any of a tuple -/
namespace PV
open PySem PySem.Spec PyProof.Rows L2
section
variable {prog : Program} {w : World} {A : Around} {E : Value → Shared → Prop} {s : Shared} {p : Addr}
/-- a tuple's iterator, just laid -/
theorem it_tup {its : Array Value} {Q : Value → Shared → Prop} (ht : s.heap.IsTuple p its)
    (q : ∀ s2 : Shared, s2 = { s with heap := s.heap.push { cls := .type "tuple_iterator", data := .fields #[.ref p, .int 0 0] } } → (s2.heap.IsTupleIter s.heap.objs.size p 0 ∧ s2.heap.IsTuple p its) → (∀ b ∈ [s.heap.objs.size, p], b < s2.heap.objs.size) → p ≠ s.heap.objs.size →
      (∀ h' : Heap, (∀ b o, b ∉ [s.heap.objs.size] → s2.heap.get? b = some o → h'.get? b = some o) → ∀ b o, s.heap.get? b = some o → h'.get? b = some o) → Q (.ref s.heap.objs.size) s2) : wpAny (model prog w) A (pyIter (.ref p)) Q E s := by
  have low : p < s.heap.objs.size := by obtain ⟨_, e, _⟩ := ht; exact Heap.lt_size e
  refine wpAny_pyIter_tuple ht (q _ rfl ⟨⟨_, Heap.get?_push_size _ rfl, rfl, rfl⟩, ?_⟩ (fun b hb => ?_) (Nat.ne_of_lt low) fun h' hk b o e => ?_)
  · obtain ⟨o, e, c, n, d⟩ := ht
    exact ⟨o, Heap.get?_push_of_some _ e, c, n, d⟩
  · show b < (s.heap.push _).objs.size
    rw [Heap.size_push]; simp only [List.mem_cons, List.not_mem_nil, or_false] at hb
    rcases hb with e | e
    · rw [e]; exact Nat.lt_succ_self _
    · rw [e]; exact Nat.lt_succ_of_lt low
  · refine hk b o (fun hm => ?_) (Heap.get?_push_of_some _ e)
    simp only [List.mem_cons, List.not_mem_nil, or_false] at hm
    subst hm; exact absurd (Heap.lt_size e) (Nat.lt_irrefl _)
theorem sum_t {its : List Value} {ns : List Int} {Q : Value → Shared → Prop} (hh : A.handled = none) (ht : s.heap.IsTuple p its.toArray) (hi : IntsAre its ns)
    (q : ∀ h' tk t', (∀ b o, s.heap.get? b = some o → h'.get? b = some o) → Q (.int ns.sum t') { s with heap := h', toks := tk }) : wpAny (model prog w) A (call (.builtin "sum") [.ref p]) Q E s := by
  obtain ⟨xs, e⟩ := hi.allInts.items
  have hn : numsOf (intItems xs).toList = ns := by rw [← e]; exact hi.numsOf
  rw [nums_intItems] at hn; rw [e] at ht
  refine call_sum_walkG (it_tup ht fun s2 e2 st fp ne old => ?_)
  subst e2
  refine ⟨_, _, _, _, _, _, numAt xs, rfl, Walks.tuple (A := A.in1) hh _ p ne (intItems xs), st, fp, (fun _ _ => intItems_at), fun h' tk t' hk => ?_⟩
  have r := q h' tk t' (old h' hk)
  have sz : (intItems xs).size = xs.size := by simp [intItems]
  rw [sz, preSum_eq, List.take_of_length_le (by simp), hn]; exact r
theorem max_t {its : List Value} {ns : List Int} {Q : Value → Shared → Prop} (hh : A.handled = none) (ht : s.heap.IsTuple p its.toArray) (hi : IntsAre its ns) (hne : 0 < ns.length)
    (q : ∀ h' tk m t', (∀ b o, s.heap.get? b = some o → h'.get? b = some o) → m ∈ ns → (∀ a, a ∈ ns → a ≤ m) → Q (.int m t') { s with heap := h', toks := tk }) : wpAny (model prog w) A (call (.builtin "max") [.ref p]) Q E s := by
  obtain ⟨xs, e⟩ := hi.allInts.items
  have hn : numsOf (intItems xs).toList = ns := by rw [← e]; exact hi.numsOf
  rw [nums_intItems] at hn; subst hn; rw [e] at ht
  have some1 : 0 < xs.size := by simpa using hne
  refine call_max_walk (it_tup ht fun s2 e2 st fp ne old => ?_)
  subst e2
  refine ⟨_, _, _, _, _, _, _, rfl, Walks.tuple (A := A.in1) hh _ p ne (intItems xs), st, fp, by simpa [intItems] using some1, CmpOf.ints_gt (numAt xs) (fun _ _ => intItems_at), fun v h' tk hP hk => ?_⟩
  have hP2 : (intItems xs)[argBest (fun i j => decide (numAt xs i > numAt xs j)) (xs.size - 1)]? = some v := by
    rw [show (intItems xs).size = xs.size by simp [intItems]] at hP; exact hP
  obtain ⟨t, rfl⟩ := intItems_at hP2
  obtain ⟨h1, h2⟩ := argBest_gt (numAt xs) (xs.size - 1)
  refine q h' tk _ t (old h' hk) ?_ fun a ha => ?_
  · rw [numAt_eq]; exact PySem.getD_mem (by rw [List.length_map, Array.length_toList]; omega)
  · obtain ⟨j, hj, rfl⟩ := mem_getD ha
    rw [List.length_map, Array.length_toList] at hj; rw [← numAt_eq]; exact h2 j (by omega)
theorem min_t {its : List Value} {ns : List Int} {Q : Value → Shared → Prop} (hh : A.handled = none) (ht : s.heap.IsTuple p its.toArray) (hi : IntsAre its ns) (hne : 0 < ns.length)
    (q : ∀ h' tk m t', (∀ b o, s.heap.get? b = some o → h'.get? b = some o) → m ∈ ns → (∀ a, a ∈ ns → m ≤ a) → Q (.int m t') { s with heap := h', toks := tk }) : wpAny (model prog w) A (call (.builtin "min") [.ref p]) Q E s := by
  obtain ⟨xs, e⟩ := hi.allInts.items
  have hn : numsOf (intItems xs).toList = ns := by rw [← e]; exact hi.numsOf
  rw [nums_intItems] at hn; subst hn; rw [e] at ht
  have some1 : 0 < xs.size := by simpa using hne
  refine call_min_walk (it_tup ht fun s2 e2 st fp ne old => ?_)
  subst e2
  refine ⟨_, _, _, _, _, _, _, rfl, Walks.tuple (A := A.in1) hh _ p ne (intItems xs), st, fp, by simpa [intItems] using some1, CmpOf.ints_lt (numAt xs) (fun _ _ => intItems_at), fun v h' tk hP hk => ?_⟩
  obtain ⟨t, rfl⟩ := intItems_at (xs := xs) (by simpa [intItems] using hP)
  obtain ⟨h1, h2⟩ := argBest_lt (numAt xs) (xs.size - 1)
  refine q h' tk _ t (old h' hk) ?_ fun a ha => ?_
  · rw [numAt_eq]; exact PySem.getD_mem (by rw [List.length_map, Array.length_toList]; omega)
  · obtain ⟨j, hj, rfl⟩ := mem_getD ha
    rw [List.length_map, Array.length_toList] at hj; rw [← numAt_eq]; exact h2 j (by omega)
end
section
variable {X : Cx}
def rSumT (K : PySem.W.Frag) : List V → Hp → VK → Prop := fun vs H Q => ∃ (a : Addr) (ns : List Int), vs = [V.ref a] ∧ SqT K H a (ns.map V.int) ∧ Q (.int ns.sum) H
def rMaxT (K : PySem.W.Frag) : List V → Hp → VK → Prop := fun vs H Q => ∃ (a : Addr) (ns : List Int), vs = [V.ref a] ∧ SqT K H a (ns.map V.int) ∧ 0 < ns.length ∧ ∀ m, m ∈ ns → (∀ y, y ∈ ns → y ≤ m) → Q (.int m) H
def rMinT (K : PySem.W.Frag) : List V → Hp → VK → Prop := fun vs H Q => ∃ (a : Addr) (ns : List Int), vs = [V.ref a] ∧ SqT K H a (ns.map V.int) ∧ 0 < ns.length ∧ ∀ m, m ∈ ns → (∀ y, y ∈ ns → m ≤ y) → Q (.int m) H
theorem cr_sumT (hc : X.calm = true) : CallR X (.builtin "sum") (rSumT X.K) := by
  intro pins s σ H vs us Q I r h
  obtain ⟨a, ns, rfl, hs, q⟩ := h
  obtain ⟨its, rv, ht, _⟩ := I.tuple hs
  rw [Vals.ref1 r]; exact sum_t (I.ok.hd hc) ht rv.ints fun h' tk t' hk => ⟨.int _, H, I.kept hk, ⟨_, rfl⟩, q⟩
theorem cr_maxT (hc : X.calm = true) : CallR X (.builtin "max") (rMaxT X.K) := by
  intro pins s σ H vs us Q I r h
  obtain ⟨a, ns, rfl, hs, hne, q⟩ := h
  obtain ⟨its, rv, ht, _⟩ := I.tuple hs
  rw [Vals.ref1 r]; exact max_t (I.ok.hd hc) ht rv.ints hne fun h' tk m t' hk h1 h2 => ⟨.int _, H, I.kept hk, ⟨_, rfl⟩, q m h1 h2⟩
theorem cr_minT (hc : X.calm = true) : CallR X (.builtin "min") (rMinT X.K) := by
  intro pins s σ H vs us Q I r h
  obtain ⟨a, ns, rfl, hs, hne, q⟩ := h
  obtain ⟨its, rv, ht, _⟩ := I.tuple hs
  rw [Vals.ref1 r]; exact min_t (I.ok.hd hc) ht rv.ints hne fun h' tk m t' hk h1 h2 => ⟨.int _, H, I.kept hk, ⟨_, rfl⟩, q m h1 h2⟩
end
def gSumA : List D → Option D
  | [d] => d.items.bind fun ds => (intsOf ds).map fun ns => .int ns.sum
  | _ => none
theorem sumA_ok {K : PySem.W.Frag} : OpOk K gSumA true (fun vs H Q => rSum K vs H Q ∨ rSumT K vs H Q) := fun H lab k ds vs d Q w fr rd hg q => by
  unfold gSumA at hg
  split at hg
  · simp only [Option.bind_eq_some_iff, Option.map_eq_some_iff] at hg
    obtain ⟨es, he, ns, hn, rfl⟩ := hg
    obtain ⟨v, rfl, r⟩ := rd.one
    obtain ⟨a, vs, rfl, hs, t⟩ := r.seq he
    rw [t.ints hn] at hs
    rcases hs with hs | hs
    · exact .inl ⟨a, ns, rfl, hs, q _ _ (res_pure w fr (.int _) (.inr rfl))⟩
    · exact .inr ⟨a, ns, rfl, hs, q _ _ (res_pure w fr (.int _) (.inr rfl))⟩
  · cases hg
def gMaxA : List D → Option D
  | [.int i, .int j] => some (.int (if j > i then j else i))
  | [d] => d.items.bind fun ds => (intsOf ds).bind fun ns => (maxI ns).map .int
  | _ => none
def gMinA : List D → Option D
  | [.int i, .int j] => some (.int (if j < i then j else i))
  | [d] => d.items.bind fun ds => (intsOf ds).bind fun ns => (minI ns).map .int
  | _ => none
def rMaxU (K : PySem.W.Frag) : List V → Hp → VK → Prop := fun xs H Q => ((∃ i j, xs = [.int i, .int j] ∧ Q (.int (if j > i then j else i)) H) ∨ rMax K xs H Q) ∨ rMaxT K xs H Q
def rMinU (K : PySem.W.Frag) : List V → Hp → VK → Prop := fun xs H Q => ((∃ i j, xs = [.int i, .int j] ∧ Q (.int (if j < i then j else i)) H) ∨ rMin K xs H Q) ∨ rMinT K xs H Q
theorem maxA_ok {K : PySem.W.Frag} : OpOk K gMaxA true (rMaxU K) := fun H lab k ds vs d Q w fr rd hg q => by
  unfold gMaxA at hg
  split at hg
  · rename_i i j
    cases hg
    obtain ⟨v, u, rfl, r, r'⟩ := rd.two
    rw [r.int_inv, r'.int_inv]
    exact .inl (.inl ⟨i, j, rfl, q _ _ (res_pure w fr (.int _) (.inr rfl))⟩)
  · simp only [Option.bind_eq_some_iff, Option.map_eq_some_iff] at hg
    obtain ⟨es, he, ns, hn, m, hm, rfl⟩ := hg
    obtain ⟨v, rfl, r⟩ := rd.one
    obtain ⟨a, vs, rfl, hs, t⟩ := r.seq he
    rw [t.ints hn] at hs
    obtain ⟨h1, h2⟩ := maxI_spec hm
    have fin : ∀ m', m' ∈ ns → (∀ y, y ∈ ns → y ≤ m') → Q (.int m') H := fun m' h3 h4 => by
      rw [show m' = m from Int.le_antisymm (h2 _ h3) (h4 _ h1)]
      exact q _ _ (res_pure w fr (.int _) (.inr rfl))
    rcases hs with hs | hs
    · exact .inl (.inr ⟨a, ns, rfl, hs, List.length_pos_of_mem h1, fin⟩)
    · exact .inr ⟨a, ns, rfl, hs, List.length_pos_of_mem h1, fin⟩
  · cases hg
theorem minA_ok {K : PySem.W.Frag} : OpOk K gMinA true (rMinU K) := fun H lab k ds vs d Q w fr rd hg q => by
  unfold gMinA at hg
  split at hg
  · rename_i i j
    cases hg
    obtain ⟨v, u, rfl, r, r'⟩ := rd.two
    rw [r.int_inv, r'.int_inv]
    exact .inl (.inl ⟨i, j, rfl, q _ _ (res_pure w fr (.int _) (.inr rfl))⟩)
  · simp only [Option.bind_eq_some_iff, Option.map_eq_some_iff] at hg
    obtain ⟨es, he, ns, hn, m, hm, rfl⟩ := hg
    obtain ⟨v, rfl, r⟩ := rd.one
    obtain ⟨a, vs, rfl, hs, t⟩ := r.seq he
    rw [t.ints hn] at hs
    obtain ⟨h1, h2⟩ := minI_spec hm
    have fin : ∀ m', m' ∈ ns → (∀ y, y ∈ ns → m' ≤ y) → Q (.int m') H := fun m' h3 h4 => by
      rw [show m' = m from Int.le_antisymm (h4 _ h1) (h2 _ h3)]
      exact q _ _ (res_pure w fr (.int _) (.inr rfl))
    rcases hs with hs | hs
    · exact .inl (.inr ⟨a, ns, rfl, hs, List.length_pos_of_mem h1, fin⟩)
    · exact .inr ⟨a, ns, rfl, hs, List.length_pos_of_mem h1, fin⟩
  · cases hg
theorem cr_sumU {X : Cx} (hc : X.calm = true) : CallR X (.builtin "sum") (fun vs H Q => rSum X.K vs H Q ∨ rSumT X.K vs H Q) := CallR.or (cr_sum hc) (cr_sumT hc)
theorem cr_maxU {X : Cx} (hc : X.calm = true) : CallR X (.builtin "max") (rMaxU X.K) := CallR.or (cr_maxA hc) (cr_maxT hc)
theorem cr_minU {X : Cx} (hc : X.calm = true) : CallR X (.builtin "min") (rMinU X.K) := CallR.or (cr_minA hc) (cr_minT hc)
end PV
/-! PV 17: a tuple of a range with a step -/
namespace PV
open PySem PySem.Spec PyProof.Rows L2
def rgC (i c : Int) (n : Nat) : List V := (List.range n).map fun m => V.int (i + (m : Nat) * c)
theorem rgC_vals {a c : Int} {n : Nat} {acc : Array Value} (h : ItemsOf (fun i v => ∃ t, v = .int (a + i * c) t) acc n) : Vals (rgC a c n) acc.toList := by
  have e : acc.toList.length = n := by rw [Array.length_toList]; exact h.1
  unfold rgC; rw [← e]
  refine vals_of_get acc.toList _ fun j u hj => ?_
  obtain ⟨t, rfl⟩ := h.2 j u (by rw [← hj, Array.getElem?_toList])
  exact ⟨t, rfl⟩
section
variable {X : Cx}
theorem pe_tupC {a b c : Expr} {ta : TA} {p p2 pos pos2 : Pos} (hc : X.calm = true) (hg : Gl X "tuple") (hm : X.mg "tuple" = none) (hg2 : Gl X "range") (hm2 : X.mg "range" = none) (ha : PA X [a, b, c] ta)
    (hs : starEach [a, b, c] X.env = (false, eval a X.env) :: starEach [b, c] X.env := by rfl) (hpl : (backTo pos2 (starEach [b, c] X.env)).any (·.1) = false := by rfl)
    (na : starEach [.Call (.Name "range" p2) [a, b, c] [] pos2] X.env = (false, eval (.Call (.Name "range" p2) [a, b, c] [] pos2) X.env) :: starEach [] X.env := by rfl) :
    PE X (.Call (.Name "tuple" p) [.Call (.Name "range" p2) [a, b, c] [] pos2] [] pos) fun σ H Q => ta σ H fun vs H1 => ∃ i j k n, vs = [.int i, .int j, .int k] ∧ RgC i j k n ∧ n ≤ 16000000 ∧ ∀ q, H1 q = none → Q (.ref q) (upd H1 q (.tup (rgC i k n))) := by
  refine ⟨fun pins s σ H Q I h => ?_⟩
  have inner : wpAny (model X.prog X.w) X.A (eval (.Call (.Name "range" p2) [a, b, c] [] pos2) X.env) (fun x s1 => ∃ (r : Addr) (i j k : Int) (t u v : Tok) (n : Nat) (H1 : Hp), x = .ref r ∧ IsRange s1.heap r i j k t u v ∧ Inv X pins σ H1 s1 ∧ RgC i j k n ∧ n ≤ 16000000 ∧ ∀ q, H1 q = none → Q (.ref q) (upd H1 q (.tup (rgC i k n)))) X.xe s := by
    refine Call_ (ld_blt I hg2 hm2 boot_range (PyProof.Rows.callWith_type1 (thn (ha.run pos2 pins s σ H _ I h) fun us s1 ⟨vs, H1, I1, r1, q1⟩ => ?_) hs hpl))
    obtain ⟨i, j, k, n, e, rg, small, q⟩ := q1
    subst e
    obtain ⟨c0, c1, c2, c3⟩ := rg
    cases r1 with
    | cons r rr =>
      cases rr with
      | cons r' rr =>
        cases rr with
        | cons r'' rr =>
          cases rr
          obtain ⟨t, rfl⟩ := r; obtain ⟨t', rfl⟩ := r'; obtain ⟨t'', rfl⟩ := r''
          exact call_range_3 c0 ⟨_, i, j, k, _, _, _, n, H1, rfl, IsRange.new _ _ _ _ _ _ _, I1.kept fun b u e => Heap.get?_push_of_some _ e, ⟨c0, c1, c2, c3⟩, small, q⟩ (.inl (PyProof.noPylong_small c1))
  refine Call_ (ld_blt I hg hm boot_tuple (PyProof.Rows.callWith_type1 (args_cons (thn inner fun x s1 ⟨r, i, j, k, t, u, v, n, H1, ex, hr, I1, rg, small, q⟩ => args_nil ?_) na) na))
  subst ex
  refine call_tuple_range (n := n) (I1.ok.hd hc) hr rg.2.2.1 rg.2.2.2 (by omega) fun h' tk acc hk hi => ?_
  have I2 : Inv X pins σ H1 { s1 with heap := h', toks := tk } := I1.kept hk
  refine ⟨.ref h'.objs.size, upd H1 h'.objs.size (.tup (rgC i k n)), I2.laid (t' := tk) (fun c o e => Heap.get?_push_of_some _ e) (Nat.le_refl _) (show ObjOk X.prog X.w _ _ _ (.tup (rgC i k n)) from ⟨?_, acc.toList, rgC_vals hi, ?_⟩), rfl, q _ (I2.hok.fresh (Nat.le_refl _))⟩
  · unfold rgC; rw [List.length_map, List.length_range, sizeLine_eq]; omega
  · rw [Array.toArray_toList]; exact IsTup.new _ _
end
def gTRg3 : List D → Option D
  | [.int a, .int b, .int c] => if c ≠ 0 ∧ c.natAbs < 1073741824 ∧ Builtin.Range.small a b c = true ∧ 0 ≤ Builtin.Range.rangeSize a b c ∧ (Builtin.Range.rangeSize a b c).toNat ≤ 16000000 then some (.tup ((List.range (Builtin.Range.rangeSize a b c).toNat).map fun m => .int (a + (m : Nat) * c))) else none
  | _ => none
theorem rgC_frz {K : PySem.W.Frag} {H : Hp} {lab : Labs} (i c : Int) : ∀ ms : List Nat, FrzL K H lab (ms.map fun m => D.int (i + (m : Nat) * c)) (ms.map fun m => V.int (i + (m : Nat) * c))
  | [] => .nil
  | m :: r => .cons (.int _) (rgC_frz i c r)
section
variable {X : Cx} {W : WX}
theorem me_trg3 {a b c : Expr} {A B C : Arg} {p p2 pos pos2 : Pos} (hc : X.calm = true) (hl : X.mg "tuple" = none) (hm : X.mg "range" = none) (ha : MA X W a A) (hb : MA X W b B) (hc' : MA X W c C) (hgl : Gl X "tuple" := by rfl) (hg : Gl X "range" := by rfl)
    (hs : starEach [a, b, c] X.env = (false, eval a X.env) :: starEach [b, c] X.env := by rfl) (hs2 : starEach [b, c] X.env = (false, eval b X.env) :: starEach [c] X.env := by rfl) (hs3 : starEach [c] X.env = [(false, eval c X.env)] := by rfl) (hpl : (backTo pos2 (starEach [b, c] X.env)).any (·.1) = false := by rfl)
    (na : starEach [.Call (.Name "range" p2) [a, b, c] [] pos2] X.env = (false, eval (.Call (.Name "range" p2) [a, b, c] [] pos2) X.env) :: starEach [] X.env := by rfl) : ME X W (.Call (.Name "tuple" p) [.Call (.Name "range" p2) [a, b, c] [] pos2] [] pos) true (fAp gTRg3 [A, B, C]) :=
  pe_mono (pe_tupC hc hgl hl hg hm (pa_cons ha (pa_cons hb (pa_cons hc' pa_nil hs3) hs2) hs) hs hpl na) fun σ H Q t => ap_ok (r := fun vs H Q => ∃ i j k n, vs = [.int i, .int j, .int k] ∧ RgC i j k n ∧ n ≤ 16000000 ∧ ∀ q, H q = none → Q (.ref q) (upd H q (.tup (rgC i k n)))) (fun H lab k ds vs d Q w fr rd hg q => by
    unfold gTRg3 at hg
    split at hg
    · rename_i a b c
      split at hg
      · rename_i hb
        cases hg
        obtain ⟨x, y, z, rfl, r1, r2, r3⟩ := rd.three
        rw [r1.int_inv, r2.int_inv, r3.int_inv]
        refine ⟨a, b, c, (Builtin.Range.rangeSize a b c).toNat, rfl, ⟨hb.1, hb.2.1, hb.2.2.1, by rw [Int.toNat_of_nonneg hb.2.2.2.1]⟩, hb.2.2.2.2, fun p hp => q _ _ (res_tup w fr hp (rgC_frz _ _ _))⟩
      · cases hg
    · cases hg) t
end
end PV
/-! PV 18: len(set(ints)), sorted(set(a tuple of ints)) -/
namespace PV
open PySem PySem.Spec PyProof.Rows L2
/-- each of the ints once, as they come first -/
def ddI (ns : List Int) : List Int := ns.foldl (fun s k => if k ∈ s then s else s ++ [k]) []
theorem dd_mem (ns : List Int) : ∀ (s : List Int) (k : Int), k ∈ ns.foldl (fun s k => if k ∈ s then s else s ++ [k]) s ↔ k ∈ s ∨ k ∈ ns := by
  induction ns with
  | nil => intro s k; simp
  | cons n r ih =>
    intro s k
    rw [List.foldl_cons, ih]
    by_cases c : n ∈ s
    · rw [if_pos c, List.mem_cons]
      constructor
      · rintro (h | h)
        · exact .inl h
        · exact .inr (.inr h)
      · rintro (h | h | h)
        · exact .inl h
        · exact .inl (h ▸ c)
        · exact .inr h
    · rw [if_neg c, List.mem_append, List.mem_singleton, List.mem_cons, or_assoc]
theorem mem_ddI {ns : List Int} {k : Int} : k ∈ ddI ns ↔ k ∈ ns := by
  unfold ddI; rw [dd_mem]; simp
theorem dd_nd (ns : List Int) : ∀ s : List Int, s.Nodup → (ns.foldl (fun s k => if k ∈ s then s else s ++ [k]) s).Nodup := by
  induction ns with
  | nil => intro s h; exact h
  | cons n r ih =>
    intro s h
    rw [List.foldl_cons]
    by_cases c : n ∈ s
    · rw [if_pos c]; exact ih s h
    · rw [if_neg c]
      refine ih _ (List.nodup_append.mpr ⟨h, List.nodup_cons.mpr ⟨List.not_mem_nil, List.nodup_nil⟩, fun a ha b hb e => ?_⟩)
      rw [List.mem_singleton.mp hb] at e
      exact c (e ▸ ha)
theorem nodup_ddI (ns : List Int) : (ddI ns).Nodup := dd_nd ns [] List.nodup_nil
theorem dd_id (ns : List Int) : ∀ s : List Int, (s ++ ns).Nodup → ns.foldl (fun s k => if k ∈ s then s else s ++ [k]) s = s ++ ns := by
  induction ns with
  | nil => intro s h; simp
  | cons n r ih =>
    intro s h
    have c : n ∉ s := fun hm => by
      have := (List.nodup_append.mp h).2.2 n hm n List.mem_cons_self
      exact this rfl
    rw [List.foldl_cons, if_neg c, ih _ (by rw [List.append_assoc]; exact h), List.append_assoc]
    rfl
theorem ddI_nodup {ns : List Int} (h : ns.Nodup) : ddI ns = ns := dd_id ns [] h
theorem firstMet_eq (ns : List Int) : PyProof.Rows.firstMet (fun i => ns.getD i 0) ns.length = ddI ns := by
  have e : (List.range ns.length).map (fun i => ns.getD i 0) = ns := by
    apply List.ext_getElem
    · simp
    · intro i h1 h2; simp at h1; simp [List.getD_eq_getElem?_getD, List.getElem?_eq_getElem h1]
  unfold PyProof.Rows.firstMet ddI
  rw [e]
  congr 1
  funext s k
  unfold PyProof.Rows.step_dedup
  by_cases c : k ∈ s
  · have y : (s.any fun x => x == k) = true := List.any_eq_true.mpr ⟨k, c, beq_iff_eq.mpr rfl⟩
    rw [if_pos c, if_pos y]
  · have y : ¬ (s.any fun x => x == k) = true := fun h => by
      obtain ⟨x, hx, e⟩ := List.any_eq_true.mp h
      rw [beq_iff_eq.mp e] at hx; exact c hx
    rw [if_neg c, if_neg y]
theorem nd_len {a b : List Int} (ha : a.Nodup) (hb : b.Nodup) (h : ∀ k, k ∈ a ↔ k ∈ b) : a.length = b.length :=
  ((List.perm_ext_iff_of_nodup ha hb).mpr h).length_eq
theorem vals_intsAre : ∀ {ns : List Int} {us : List Value}, Vals (ns.map V.int) us → PyProof.Rows.IntsAre us ns
  | [], _, .nil => .nil
  | n :: ns, _, .cons r t => by
    obtain ⟨k, rfl⟩ := r
    exact .cons n k (vals_intsAre t)
section
variable {X : Cx}
theorem pe_lenSetA {a : Expr} {ta : TA} {p p2 q pos : Pos} (hc : X.calm = true) (hg : Gl X "len") (hm : X.mg "len" = none) (hg2 : Gl X "set") (hm2 : X.mg "set" = none) (ha : PA X [a] ta)
    (na : starEach [a] X.env = (false, eval a X.env) :: starEach [] X.env := by rfl) : PE X (.Call (.Name "len" p) [.Call (.Name "set" p2) [a] [] q] [] pos) fun σ H Q => ta σ H fun vs H1 => ∃ (l : Addr) (ns : List Int), vs = [.ref l] ∧ (SqL X.K H1 l (ns.map V.int) ∨ SqT X.K H1 l (ns.map V.int)) ∧ ns.length ≤ 4000 ∧ Q (.int ((ddI ns).length : Nat)) H1 := by
  refine ⟨fun pins s σ H Q I h => ?_⟩
  refine Call_ (ld_blt I hg hm PySem.boot_len ?_)
  refine PyProof.Rows.callWith_builtin1 (PyProof.Rows.args_cons ?_ rfl) rfl rfl
  refine Call_ (ld_blt I hg2 hm2 PyProof.Rows.boot_set ?_)
  refine PyProof.Rows.callWith_type1 (thn (ha.run q pins s σ H _ I h) fun us s1 ⟨vs, H1, I1, r1, q1⟩ => ?_) na rfl
  obtain ⟨l, ns, rfl, hq, hl, q1⟩ := q1
  rw [Vals.ref1 r1]
  rcases hq with hq | hq
  · obtain ⟨its, r, pl, hz⟩ := I1.list hq
    have hlen : its.toArray.size = ns.length := by rw [List.size_toArray, ← r.length, List.length_map]
    refine call_set_list (I1.ok.hd hc) pl.isList (ns := ns) (by simpa using vals_intsAre r) (by rw [hlen]; unfold scanBound; omega) fun h' tk hS hk => ?_
    refine PyProof.Rows.args_nil ?_
    rw [hlen, firstMet_eq] at hS
    obtain ⟨o, es, ep, t, ho, hex, hd, _, _, hb, hf, hn⟩ := hS
    have I2 : Inv X pins σ H1 { s1 with heap := h', toks := tk } := I1.kept fun b o e => hk b o (Heap.lt_size e) e
    exact call_len_set ho hex hd hf (by unfold scanBound at hb; omega) ⟨.int (ddI ns).length, H1, I2.tok _, ⟨_, by rw [hn]⟩, q1⟩
  · obtain ⟨its, r, pl, hz⟩ := I1.tuple hq
    refine call_set_tupI ns (I1.ok.hd hc) pl (by simpa using vals_intsAre r) (by unfold scanBound; omega) fun h' tk c R hc hk => ?_
    refine PyProof.Rows.args_nil ?_
    obtain ⟨o, es, ep, t, ho, hex, hd, hgd, hnd, hmem, hb, hf, hn, _⟩ := R
    have I2 : Inv X pins σ H1 { s1 with heap := h', toks := tk } := I1.kept hk
    have en : es.size = (ddI ns).length := by
      rw [← nd_len hnd (nodup_ddI ns) (fun k => by rw [← hmem k, mem_ddI]; simp), List.length_map, Array.length_toList]
    exact call_len_set ho hex hd hf (by unfold scanBound at hb; omega) ⟨.int (ddI ns).length, H1, I2.tok _, ⟨_, by rw [en]⟩, q1⟩
end
def gLenSet : List D → Option D
  | [d] => d.items.bind fun ds => (intsOf ds).bind fun ns => if ns.length ≤ 4000 then some (.int (ddI ns).length) else none
  | _ => none
section
variable {X : Cx} {W : WX}
theorem me_lenSet {a : Expr} {A : Arg} {p p2 q pos : Pos} (hc : X.calm = true) (hm : X.mg "len" = none) (hm2 : X.mg "set" = none) (ha : MA X W a A) (hg : Gl X "len" := by rfl) (hg2 : Gl X "set" := by rfl)
    (na : starEach [a] X.env = (false, eval a X.env) :: starEach [] X.env := by rfl) : ME X W (.Call (.Name "len" p) [.Call (.Name "set" p2) [a] [] q] [] pos) true (fAp gLenSet [A]) :=
  pe_mono (pe_lenSetA hc hg hm hg2 hm2 (pa_cons ha pa_nil na) na) fun σ H Q t => ap_ok (r := fun vs H1 Q => ∃ (l : Addr) (ns : List Int), vs = [V.ref l] ∧ (SqL X.K H1 l (ns.map V.int) ∨ SqT X.K H1 l (ns.map V.int)) ∧ ns.length ≤ 4000 ∧ Q (.int ((ddI ns).length : Nat)) H1) (fun H lab k ds vs d Q w fr rd hg q => by
    unfold gLenSet at hg
    split at hg
    · simp only [Option.bind_eq_some_iff] at hg
      obtain ⟨es, he, ns, hn, hg⟩ := hg
      split at hg
      · rename_i hz
        cases hg
        obtain ⟨v, rfl, r⟩ := rd.one
        obtain ⟨a, vs, rfl, hs, t⟩ := r.seq he
        rw [t.ints hn] at hs
        exact ⟨a, ns, rfl, hs, hz, q _ _ (res_pure w fr (.int _) (.inr rfl))⟩
      · cases hg
    · cases hg) t
end
end PV
/-! PV 19: sorted, min and max of plain data: texts, tuples, nested -/
namespace PV
open PySem PySem.Spec PyProof.Rows L2
open PySem.W (dataLt AlikeAll iter_listW iter_tupleW argBest_fold moved_old cmpIn_lt cmpIn_gt readsAll_len)
/-- a value as plain data -/
def pyd (d : D) : PyData := d.py.getD .none
def ltD (a b : D) : Bool := dataLt (pyd a) (pyd b)
def leD (a b : D) : Bool := !ltD b a
theorem pys_map : ∀ {ds : List D} {ps : List PyData}, D.pys ds = some ps → ps = ds.map pyd
  | [], _, h => by simp [D.pys] at h; subst h; rfl
  | d :: r, _, h => by
    simp only [D.pys] at h
    cases h1 : d.py with
    | none => rw [h1] at h; cases h
    | some p =>
      cases h2 : D.pys r with
      | none => rw [h1, h2] at h; cases h
      | some ps =>
        rw [h1, h2] at h
        cases h
        rw [List.map_cons, ← pys_map h2]
        unfold pyd
        rw [h1]
        rfl
/-- these can be compared, each with each -/
def CmpD (ds : List D) : Prop := (∃ ps, D.pys ds = some ps) ∧ AlikeAll (ds.map pyd) ∧ PyData.depthAll (ds.map pyd) ≤ 60
/-- these can be sorted -/
def SrtD (ds : List D) : Prop := ((∃ ps, D.pys ds = some ps) ∧ PySem.W.AllAlike (ds.map pyd) ∧ PySem.W.Sortable (ds.map pyd) ∧ ∀ d ∈ ds, (pyd d).depth ≤ 60) ∧ ds.length ≤ 16000000
def minG (x : D) (xs : List D) : D := xs.foldl (fun a y => if ltD y a = true then y else a) x
def maxG (x : D) (xs : List D) : D := xs.foldl (fun a y => if ltD a y = true then y else a) x
theorem vals_at : ∀ {vs : List V} {us : List Value} {i : Nat} {u : Value}, Vals vs us → us[i]? = some u → ∃ v, vs[i]? = some v ∧ RelV v u
  | _, _, i, _, .nil, h => by simp at h
  | _, _, 0, _, .cons r t, h => by
    simp at h; subst h; exact ⟨_, rfl, r⟩
  | _, _, i + 1, _, .cons r t, h => by
    obtain ⟨v, e, q⟩ := vals_at (i := i) t (by simpa using h)
    exact ⟨v, by simpa using e, q⟩
theorem vals_lenE {vs : List V} {us : List Value} (h : Vals vs us) : vs.length = us.length := h.length
/-! min, max -/
def rMinD (K : PySem.W.Frag) : List V → Hp → VK → Prop := fun vs H Q => ∃ (a : Addr) (us : List V) (ps : List PyData), vs = [V.ref a] ∧ (SqL K H a us ∨ SqT K H a us) ∧ DpAll K H us ps ∧ AlikeAll ps ∧ PyData.depthAll ps ≤ 60 ∧ 0 < ps.length ∧
  ∀ v, us[argBest (fun i j => dataLt (ps.getD i .none) (ps.getD j .none)) (ps.length - 1)]? = some v → Q v H
def rMaxD (K : PySem.W.Frag) : List V → Hp → VK → Prop := fun vs H Q => ∃ (a : Addr) (us : List V) (ps : List PyData), vs = [V.ref a] ∧ (SqL K H a us ∨ SqT K H a us) ∧ DpAll K H us ps ∧ AlikeAll ps ∧ PyData.depthAll ps ≤ 60 ∧ 0 < ps.length ∧
  ∀ v, us[argBest (fun i j => dataLt (ps.getD j .none) (ps.getD i .none)) (ps.length - 1)]? = some v → Q v H
theorem cr_minD {X : Cx} (hc : X.calm = true) (hu : X.A.units + 65 < cLine) : CallR X (.builtin "min") (rMinD X.K) := by
  intro pins s σ H vs us Q I r h
  obtain ⟨a, ws, ps, rfl, hs, dp, al, dep, pos, q⟩ := h
  rw [Vals.ref1 r]
  rcases hs with hs | hs
  · obtain ⟨its, rv, pl, hz⟩ := I.list hs
    obtain ⟨as, rd⟩ := Dp.readsAll I ps ws its dp rv
    have sz : its.toArray.size = ps.length := readsAll_len (by simpa using rd)
    refine call_min_walkH (iter_listW (A := X.A.in1) (I.ok.hd hc) pl.isList fun s2 e W st fp hw hk => ?_)
    refine ⟨_, _, _, _, _, _, _, s.heap, _, rfl, W, st, fp, by rw [sz]; exact pos, hw, hk, cmpIn_lt (A := X.A.in1) (by simpa using rd) al (by show X.A.units + 1 + _ < _; omega), fun v s' hP m => ?_⟩
    obtain ⟨h', tk, rfl, k'⟩ := moved_old e rfl m
    rw [sz] at hP
    obtain ⟨w', e1, r1⟩ := vals_at rv (by simpa using hP)
    exact ⟨w', H, I.kept k', r1, q w' e1⟩
  · obtain ⟨its, rv, pl, hz⟩ := I.tuple hs
    obtain ⟨as, rd⟩ := Dp.readsAll I ps ws its dp rv
    have sz : its.toArray.size = ps.length := readsAll_len (by simpa using rd)
    refine call_min_walkH (iter_tupleW (A := X.A.in1) (I.ok.hd hc) pl fun s2 e W st fp hw hk => ?_)
    refine ⟨_, _, _, _, _, _, _, s.heap, _, rfl, W, st, fp, by rw [sz]; exact pos, hw, hk, cmpIn_lt (A := X.A.in1) (by simpa using rd) al (by show X.A.units + 1 + _ < _; omega), fun v s' hP m => ?_⟩
    obtain ⟨h', tk, rfl, k'⟩ := moved_old e rfl m
    rw [sz] at hP
    obtain ⟨w', e1, r1⟩ := vals_at rv (by simpa using hP)
    exact ⟨w', H, I.kept k', r1, q w' e1⟩
theorem cr_maxD {X : Cx} (hc : X.calm = true) (hu : X.A.units + 65 < cLine) : CallR X (.builtin "max") (rMaxD X.K) := by
  intro pins s σ H vs us Q I r h
  obtain ⟨a, ws, ps, rfl, hs, dp, al, dep, pos, q⟩ := h
  rw [Vals.ref1 r]
  rcases hs with hs | hs
  · obtain ⟨its, rv, pl, hz⟩ := I.list hs
    obtain ⟨as, rd⟩ := Dp.readsAll I ps ws its dp rv
    have sz : its.toArray.size = ps.length := readsAll_len (by simpa using rd)
    refine call_max_walkH (iter_listW (A := X.A.in1) (I.ok.hd hc) pl.isList fun s2 e W st fp hw hk => ?_)
    refine ⟨_, _, _, _, _, _, _, s.heap, _, rfl, W, st, fp, by rw [sz]; exact pos, hw, hk, cmpIn_gt (A := X.A.in1) (by simpa using rd) al (by show X.A.units + 1 + _ < _; omega), fun v s' hP m => ?_⟩
    obtain ⟨h', tk, rfl, k'⟩ := moved_old e rfl m
    rw [sz] at hP
    obtain ⟨w', e1, r1⟩ := vals_at rv (by simpa using hP)
    exact ⟨w', H, I.kept k', r1, q w' e1⟩
  · obtain ⟨its, rv, pl, hz⟩ := I.tuple hs
    obtain ⟨as, rd⟩ := Dp.readsAll I ps ws its dp rv
    have sz : its.toArray.size = ps.length := readsAll_len (by simpa using rd)
    refine call_max_walkH (iter_tupleW (A := X.A.in1) (I.ok.hd hc) pl fun s2 e W st fp hw hk => ?_)
    refine ⟨_, _, _, _, _, _, _, s.heap, _, rfl, W, st, fp, by rw [sz]; exact pos, hw, hk, cmpIn_gt (A := X.A.in1) (by simpa using rd) al (by show X.A.units + 1 + _ < _; omega), fun v s' hP m => ?_⟩
    obtain ⟨h', tk, rfl, k'⟩ := moved_old e rfl m
    rw [sz] at hP
    obtain ⟨w', e1, r1⟩ := vals_at rv (by simpa using hP)
    exact ⟨w', H, I.kept k', r1, q w' e1⟩
theorem pyd_getD (ds : List D) (i : Nat) : (ds.map pyd).getD i .none = pyd (ds.getD i .non) := by
  rw [List.getD_eq_getElem?_getD, List.getD_eq_getElem?_getD, List.getElem?_map]
  cases ds[i]? <;> rfl
theorem best_at {x : D} {xs : List D} {f : D → D → Bool} : (x :: xs)[argBest (fun i j => f ((x :: xs).getD i .non) ((x :: xs).getD j .non)) ((x :: xs).length - 1)]? = some (xs.foldl (fun a y => if f y a = true then y else a) x) := by
  obtain ⟨h1, h2⟩ := argBest_fold f .non x xs xs.length (Nat.le_refl _)
  rw [List.take_length] at h2
  have e : (x :: xs).length - 1 = xs.length := by simp
  rw [e]
  have hl : argBest (fun i j => f ((x :: xs).getD i .non) ((x :: xs).getD j .non)) xs.length < (x :: xs).length := by rw [List.length_cons]; omega
  rw [List.getElem?_eq_getElem hl]
  rw [List.getD_eq_getElem?_getD, List.getElem?_eq_getElem hl] at h2
  exact congrArg some h2
open Classical in
noncomputable def gMinB (ds : List D) : Option D := match gMinA ds with
  | some d => some d
  | none => match ds with
    | [d] => (match d.items with
      | some (x :: xs) => if CmpD (x :: xs) then some (minG x xs) else none
      | _ => none)
    | _ => none
open Classical in
noncomputable def gMaxB (ds : List D) : Option D := match gMaxA ds with
  | some d => some d
  | none => match ds with
    | [d] => (match d.items with
      | some (x :: xs) => if CmpD (x :: xs) then some (maxG x xs) else none
      | _ => none)
    | _ => none
theorem res_lower {K : PySem.W.Frag} {H H' : Hp} {lab : Labs} {k : Nat} {d : D} {v : V} (fr : Free k lab) (h : Res K H lab k true d v H') : Res K H lab k false d v H' := by
  obtain ⟨lab', g, w', f', hold⟩ := h
  have st := (g.step).swpTmp (l := .frz) fr
  refine ⟨swp lab' (.tmp k) .frz, fun a o e => ?_, w'.swap (fun e => nomatch e), (f'.frzTmp).mono (Nat.le_succ _), hold.frz (fun a e => swp_keep (fun q => nomatch q) e) (fun a e => swp_at e) (Nat.le_refl _)⟩
  obtain ⟨g1, g2⟩ := g a o e
  exact ⟨g1, by rw [swp_ne (by rw [g2]; exact fr k (Nat.le_refl _) a), g2]⟩
theorem OpOk.lower {K : PySem.W.Frag} {g : List D → Option D} {r : List V → Hp → VK → Prop} (h : OpOk K g true r) : OpOk K g false r := fun H lab k ds vs d Q w fr rd hg q =>
  h H lab k ds vs d Q w fr rd hg fun v H' res => q v H' (res_lower fr res)
theorem minB_ok {K : PySem.W.Frag} : OpOk K gMinB false (fun vs H Q => rMinU K vs H Q ∨ rMinD K vs H Q) := fun H lab k ds vs d Q w fr rd hg q => by
  unfold gMinB at hg
  split at hg
  · rename_i d' hd
    cases hg
    exact .inl (minA_ok.lower H lab k ds vs _ Q w fr rd hd q)
  · split at hg
    · split at hg
      · rename_i dd _ x xs he
        split at hg
        · rename_i hc
          cases hg
          obtain ⟨v, rfl, r⟩ := rd.one
          obtain ⟨a, ws, rfl, hs, t⟩ := r.seq he
          obtain ⟨⟨ps, hp⟩, al, dep⟩ := hc
          have ep := pys_map hp
          have dp := t.dps hp
          rw [ep] at dp
          refine .inr ⟨a, ws, _, rfl, hs, dp, al, dep, by simp, fun v hv => ?_⟩
          have be := best_at (x := x) (xs := xs) (f := ltD)
          have fe : (fun i j => dataLt (((x :: xs).map pyd).getD i .none) (((x :: xs).map pyd).getD j .none)) = fun i j => ltD ((x :: xs).getD i .non) ((x :: xs).getD j .non) := by
            funext i j; rw [pyd_getD, pyd_getD]; rfl
          rw [fe, List.length_map] at hv
          obtain ⟨v', e1, f1⟩ := t.get be
          rw [hv] at e1
          cases e1
          exact q _ _ (res_pure w fr f1 (.inl rfl))
        · cases hg
      · cases hg
    · cases hg
theorem maxB_ok {K : PySem.W.Frag} : OpOk K gMaxB false (fun vs H Q => rMaxU K vs H Q ∨ rMaxD K vs H Q) := fun H lab k ds vs d Q w fr rd hg q => by
  unfold gMaxB at hg
  split at hg
  · rename_i d' hd
    cases hg
    exact .inl (maxA_ok.lower H lab k ds vs _ Q w fr rd hd q)
  · split at hg
    · split at hg
      · rename_i dd _ x xs he
        split at hg
        · rename_i hc
          cases hg
          obtain ⟨v, rfl, r⟩ := rd.one
          obtain ⟨a, ws, rfl, hs, t⟩ := r.seq he
          obtain ⟨⟨ps, hp⟩, al, dep⟩ := hc
          have ep := pys_map hp
          have dp := t.dps hp
          rw [ep] at dp
          refine .inr ⟨a, ws, _, rfl, hs, dp, al, dep, by simp, fun v hv => ?_⟩
          have be := best_at (x := x) (xs := xs) (f := fun y a => ltD a y)
          have fe : (fun i j => dataLt (((x :: xs).map pyd).getD j .none) (((x :: xs).map pyd).getD i .none)) = fun i j => (fun y a => ltD a y) ((x :: xs).getD i .non) ((x :: xs).getD j .non) := by
            funext i j; rw [pyd_getD, pyd_getD]; rfl
          rw [fe, List.length_map] at hv
          obtain ⟨v', e1, f1⟩ := t.get be
          rw [hv] at e1
          cases e1
          exact q _ _ (res_pure w fr f1 (.inl rfl))
        · cases hg
      · cases hg
    · cases hg
theorem cr_minB {X : Cx} (hc : X.calm = true) (hu : X.A.units + 65 < cLine) : CallR X (.builtin "min") (fun vs H Q => rMinU X.K vs H Q ∨ rMinD X.K vs H Q) := CallR.or (cr_minU hc) (cr_minD hc hu)
theorem cr_maxB {X : Cx} (hc : X.calm = true) (hu : X.A.units + 65 < cLine) : CallR X (.builtin "max") (fun vs H Q => rMaxU X.K vs H Q ∨ rMaxD X.K vs H Q) := CallR.or (cr_maxU hc) (cr_maxD hc hu)
/-! sorted -/
def rSortedD (K : PySem.W.Frag) : List V → Hp → VK → Prop := fun vs H Q => ∃ (a : Addr) (us : List V) (ps : List PyData), vs = [V.ref a] ∧ SqL K H a us ∧ DpAll K H us ps ∧ us.length = ps.length ∧ PySem.W.AllAlike ps ∧ PySem.W.Sortable ps ∧ (∀ p ∈ ps, p.depth ≤ 60) ∧ us.length ≤ sizeLine ∧
  ∀ p, H p = none → Q (.ref p) (upd H p (.lst (((us.zip ps).mergeSort (PySem.W.dataLe false Prod.snd)).map Prod.fst)))
theorem each_rel {α : Type} {f : α → V} : ∀ {out : List Value} {bs : List α}, PySem.W.EachIs (fun v b => RelV (f b) v) out bs → Vals (bs.map f) out
  | _, _, .nil => .nil
  | _, _, .cons h t => .cons h (each_rel t)
theorem rel_each : ∀ {us : List V} {ps : List PyData} {its : List Value}, us.length = ps.length → Vals us its → PySem.W.EachIs (fun v (b : V × PyData) => RelV b.1 v) its (us.zip ps)
  | [], [], _, _, .nil => .nil
  | u :: us, p :: ps, _, h, .cons r t => .cons r (rel_each (by simpa using h) t)
  | [], _ :: _, _, h, _ => by simp at h
  | _ :: _, [], _, h, _ => by simp at h
theorem reads_each {h : Heap} : ∀ {us : List V} {ps : List PyData} {its : List Value} {as : List Addr}, us.length = ps.length → ReadsAll h its ps as → PySem.W.EachIs (fun v (b : V × PyData) => ∃ as, Reads h v b.2 as) its (us.zip ps)
  | [], [], _, _, _, .nil => .nil
  | u :: us, p :: ps, _, _, h, .cons r t => .cons ⟨_, r⟩ (reads_each (by simpa using h) t)
  | [], _ :: _, _, _, h, _ => by simp at h
  | _ :: _, [], _, _, h, _ => by simp at h
theorem zip_snd {α β : Type} : ∀ {us : List α} {ps : List β}, us.length = ps.length → (us.zip ps).map Prod.snd = ps
  | [], [], _ => rfl
  | u :: us, p :: ps, h => by simp [zip_snd (us := us) (ps := ps) (by simpa using h)]
  | [], _ :: _, h => by simp at h
  | _ :: _, [], h => by simp at h
theorem cr_sortedD {X : Cx} (hu : X.A.units + 65 < cLine) : CallR X (.builtin "sorted") (rSortedD X.K) := by
  intro pins s σ H vs us Q I r h
  obtain ⟨a, ws, ps, rfl, hs, dp, hl, al, so, dep, fit, q⟩ := h
  rw [Vals.ref1 r]
  obtain ⟨its, rv, pl, hz⟩ := I.list hs
  obtain ⟨as, rd⟩ := Dp.readsAll I ps ws its dp rv
  have zl : (ws.zip ps).length = ws.length := by rw [List.length_zip]; omega
  refine PySem.W.sorted_data (enc := Prod.snd) pl.isList (rel_each hl rv) (reads_each hl rd) (by rw [zip_snd hl]; exact al) (by rw [zip_snd hl]; exact so) (by rw [zl]; exact fit) (fun b hb => by
    have : b.2 ∈ ps := by rw [← zip_snd hl]; exact List.mem_map.mpr ⟨b, hb, rfl⟩
    have := dep _ this
    omega) fun out ho ea => ?_
  obtain ⟨ep, there⟩ := PyProof.Rows.sortedAll_at s.heap its out.toArray
  have fits : (((ws.zip ps).mergeSort (PySem.W.dataLe false Prod.snd)).map Prod.fst).length ≤ sizeLine := by rw [List.length_map, List.length_mergeSort, zl]; exact fit
  exact ⟨.ref _, upd H (s.heap.objs.size + 1) (.lst (((ws.zip ps).mergeSort (PySem.W.dataLe false Prod.snd)).map Prod.fst)), I.laid (t' := s.toks) (fun _ _ => PyProof.Rows.sortedAll_old) (Nat.le_succ _) ⟨fits, out, ep, each_rel ea, there⟩, rfl, q _ (I.hok.fresh (Nat.le_succ _))⟩
theorem FrzL.pairs {K : PySem.W.Frag} {H : Hp} {lab : Labs} : ∀ {ds : List D} {vs : List V}, FrzL K H lab ds vs → ∀ q ∈ ds.zip vs, Frz K H lab q.1 q.2
  | _, _, .nil, q, h => by simp at h
  | _, _, .cons a t, q, h => by
    rw [List.zip_cons_cons] at h
    rcases List.mem_cons.mp h with rfl | h
    · exact a
    · exact t.pairs q h
theorem FrzL.ofPairs {K : PySem.W.Frag} {H : Hp} {lab : Labs} : ∀ {l : List (D × V)}, (∀ q ∈ l, Frz K H lab q.1 q.2) → FrzL K H lab (l.map Prod.fst) (l.map Prod.snd)
  | [], _ => .nil
  | q :: l, h => .cons (h q (by simp)) (FrzL.ofPairs fun p hp => h p (by simp [hp]))
theorem zip_fst {α β : Type} : ∀ {us : List α} {ps : List β}, us.length = ps.length → (us.zip ps).map Prod.fst = us
  | [], [], _ => rfl
  | u :: us, p :: ps, h => by simp [zip_fst (us := us) (ps := ps) (by simpa using h)]
  | [], _ :: _, h => by simp at h
  | _ :: _, [], h => by simp at h
theorem srt_frz {K : PySem.W.Frag} {H : Hp} {lab : Labs} {ds : List D} {us : List V} (t : FrzL K H lab ds us) : FrzL K H lab (ds.mergeSort leD) (((us.zip (ds.map pyd)).mergeSort (PySem.W.dataLe false Prod.snd)).map Prod.fst) := by
  have hl := t.length
  have e1 : ((ds.zip us).mergeSort (fun a b => leD a.1 b.1)).map Prod.fst = ds.mergeSort leD := by
    rw [List.map_mergeSort (s := leD) (fun a _ b _ => rfl), zip_fst hl]
  have e2 : ((ds.zip us).mergeSort (fun a b => leD a.1 b.1)).map (fun q => (q.2, pyd q.1)) = (us.zip (ds.map pyd)).mergeSort (PySem.W.dataLe false Prod.snd) := by
    rw [List.map_mergeSort (f := fun q : D × V => (q.2, pyd q.1)) (s := PySem.W.dataLe false Prod.snd) (r := fun a b => leD a.1 b.1) (fun a _ b _ => rfl)]
    congr 1
    clear e1 t
    induction ds generalizing us with
    | nil => cases us with
      | nil => rfl
      | cons u us => simp at hl
    | cons d ds ih => cases us with
      | nil => simp at hl
      | cons u us =>
        rw [List.zip_cons_cons, List.map_cons, List.map_cons, List.zip_cons_cons, ih (by simpa using hl)]
  have e3 : ((us.zip (ds.map pyd)).mergeSort (PySem.W.dataLe false Prod.snd)).map Prod.fst = ((ds.zip us).mergeSort (fun a b => leD a.1 b.1)).map Prod.snd := by
    rw [← e2, List.map_map]; rfl
  rw [e3, ← e1]
  exact FrzL.ofPairs fun q hq => t.pairs q ((List.mergeSort_perm _ _).mem_iff.mp hq)
open Classical in
noncomputable def gSortB (ds : List D) : Option D := match gSorted ds with
  | some d => some d
  | none => match ds with
    | [d] => d.items?.bind fun es => if SrtD es then some (.lst (es.mergeSort leD)) else none
    | _ => none
theorem sortB_ok {K : PySem.W.Frag} : OpOk K gSortB true (fun vs H Q => rSortedA K vs H Q ∨ rSortedD K vs H Q) := fun H lab k ds vs d Q w fr rd hg q => by
  unfold gSortB at hg
  split at hg
  · rename_i d' hd
    cases hg
    exact .inl (sorted_ok H lab k ds vs _ Q w fr rd hd q)
  · split at hg
    · simp only [Option.bind_eq_some_iff] at hg
      obtain ⟨es, he, hg⟩ := hg
      split at hg
      · rename_i hc
        cases hg
        obtain ⟨v, rfl, r⟩ := rd.one
        obtain ⟨a, ws, rfl, hs, t⟩ := r.seqL he
        obtain ⟨⟨⟨ps, hp⟩, al, so, dep⟩, hz⟩ := hc
        have ep := pys_map hp
        have dp := t.dps hp
        rw [ep] at dp
        refine .inr ⟨a, ws, _, rfl, hs, dp, by rw [List.length_map]; exact t.length.symm, al, so, fun p hp => ?_, by rw [← t.length, sizeLine_eq]; omega, fun p hp => q _ _ (res_obj w fr hp (.lst _ _) (srt_frz t))⟩
        obtain ⟨d, hd, rfl⟩ := List.mem_map.mp hp
        exact dep d hd
      · cases hg
    · cases hg
theorem cr_sortB {X : Cx} (hu : X.A.units + 65 < cLine) : CallR X (.builtin "sorted") (fun vs H Q => rSortedA X.K vs H Q ∨ rSortedD X.K vs H Q) := CallR.or cr_sortedA (cr_sortedD hu)
end PV
/-! PV 20: dicts written out; repr of what holds dicts -/
namespace PV
open PySem PySem.Spec PyProof.Rows L2
/-! ### all but one address stays -/
def But (p : Addr) (lab : Labs) (H : Hp) (lab' : Labs) (H' : Hp) : Prop := ∀ a o, a ≠ p → H a = some o → H' a = some o ∧ lab' a = lab a
theorem mut_tup {vs : List V} (h : Mut (some (.tup vs))) : False := h
theorem mut_frz {ob : Obj} {u : HO} (h : Mut (some (.frz ob u))) : False := h
mutual
theorem Frz.but {K : PySem.W.Frag} {p : Addr} {lab lab' : Labs} {H H' : Hp} (hm : Mut (H p)) (hl : lab p ≠ .frz) (s : But p lab H lab' H') : ∀ {d : D} {v : V}, Frz K H lab d v → Frz K H' lab' d v
  | _, _, .non => .non
  | _, _, .bl b => .bl b
  | _, _, .int i => .int i
  | _, _, .str x => .str x
  | _, _, .ty n => .ty n
  | _, _, .tup h t => .tup (s _ _ (fun e => by subst e; rw [h] at hm; exact mut_tup hm) h).1 (FrzL.but hm hl s t)
  | _, _, .ro h t => .ro (by
      rcases h with ⟨ob, h⟩ | h
      · exact .inl ⟨ob, (s _ _ (fun e => by subst e; rw [h] at hm; exact mut_frz hm) h).1⟩
      · exact .inr h) (FrzL.but hm hl s t)
  | _, _, .obj h l sh t => .obj (s _ _ (fun e => by subst e; exact hl l) h).1 ((s _ _ (fun e => by subst e; exact hl l) h).2.trans l) sh (FrzL.but hm hl s t)
theorem FrzL.but {K : PySem.W.Frag} {p : Addr} {lab lab' : Labs} {H H' : Hp} (hm : Mut (H p)) (hl : lab p ≠ .frz) (s : But p lab H lab' H') : ∀ {ds : List D} {vs : List V}, FrzL K H lab ds vs → FrzL K H' lab' ds vs
  | _, _, .nil => .nil
  | _, _, .cons h t => .cons (Frz.but hm hl s h) (FrzL.but hm hl s t)
end
theorem FI.but {K : PySem.W.Frag} {p : Addr} {lab lab' : Labs} {H H' : Hp} {sa : AS} {σ : L2.St} (hm : Mut (H p)) (hl : lab p = .no) (s : But p lab H lab' H') (w : Wf lab' H') (I : FI K H lab sa σ) : FI K H' lab' sa σ := by
  have nf : lab p ≠ .frz := by rw [hl]; exact fun e => nomatch e
  have own : ∀ {l : Lab} {d : D} {v : V}, l ≠ .no → Own K H lab l d v → Own K H' lab' l d v := fun {l d v} hn h => by
    obtain ⟨a, o, ds, vs, rfl, ha, e, sh, t⟩ := h
    have q := s a o (fun z => by subst z; exact hn (e.symm.trans hl)) ha
    exact ⟨a, o, ds, vs, rfl, q.1, q.2.trans e, sh, t.but hm nf s⟩
  refine ⟨w, I.len, fun i d n hi => ?_⟩
  obtain ⟨v, hv, r⟩ := I.sl i d n hi
  refine ⟨v, hv, ?_⟩
  match n, r with
  | 0, r => exact Frz.but hm nf s r
  | 1, .inl ⟨e, r⟩ => exact .inl ⟨e, Frz.but hm nf s r⟩
  | 1, .inr r => exact .inr (own (fun z => nomatch z) r)
  | n + 2, r => exact own (l := .lent) (fun z => nomatch z) r
theorem lab_no {lab : Labs} {H : Hp} {p : Addr} (w : Wf lab H) (hp : H p = none) : lab p = .no := by
  by_cases e : lab p = .no
  · exact e
  · have := w p e
    rw [hp] at this
    exact this.elim
/-- a key -/
def keyOf? : D → Option Key
  | .int i => some (.inl i)
  | .str s => some (.inr s)
  | _ => none
theorem keyD_of {d : D} {k : Key} (h : keyOf? d = some k) : keyD k = d := by
  unfold keyOf? at h
  split at h <;> cases h <;> rfl
/-- {k: v} -/
def gDict1 : List D → Option D
  | [k, v] => (keyOf? k).map fun _ => .dic false [(k, v)]
  | _ => none
theorem Frz.key {K : PySem.W.Frag} {H : Hp} {lab : Labs} {d : D} {v : V} {k : Key} (h : Frz K H lab d v) (e : keyOf? d = some k) : v = kV k := by
  unfold keyOf? at e
  split at e <;> cases e
  · exact (show Rdv K H lab _ _ from .inl h).int_inv
  · exact (show Rdv K H lab _ _ from .inl h).str_inv
section
variable {X : Cx} {W : WX}
theorem me_disp1 {k v : Expr} {n m : Bool} {f g : AE} {pos : Pos} (hk : ME X W k n f) (hv : ME X W v m g) : ME X W (.Dict [some k] [v] pos) true (fApF gDict1 [.ev n f, .ev m g]) :=
  pe_mono (pe_disp (pps_cons hk hv pps_nil) rfl rfl (by simp) (by simp)) fun σ H Q t => by
    obtain ⟨lab, sa, j, I, fr, t⟩ := t
    intro p hp
    have l0 : lab p = .no := lab_no I.wf hp
    have g1 : Grow lab H lab (upd H p (.dK [])) := fun a o e => ⟨by rw [upd_ne (ne_of_none e hp)]; exact e, rfl⟩
    have w1 : Wf lab (upd H p (.dK [])) := fun a e => by
      by_cases q : a = p
      · rw [q] at e; exact absurd l0 e
      · rw [upd_ne q]; exact I.wf a e
    have I1 : FI X.K (upd H p (.dK [])) lab sa σ := I.grow g1 w1
    refine args_ok (K := X.K) (mg := X.mg) (W := W) (Q := fun vs H2 => match vs with
      | [x, y] => H2 p = some (.dK []) ∧ ∃ kvs : List (Key × V), [(x, y)] = kvs.map (fun kv => (kV kv.1, kv.2)) ∧ kvs.length ≤ 15 ∧ Q (.ref p) (upd H2 p (.dK (mergeK [] kvs)))
      | _ => False) [.ev n f, .ev m g] I1 fr ?_
    simp only [fApF] at t
    cases he : evArgs [.ev n f, .ev m g] sa with
    | no => rw [he] at t; exact t
    | ex x s =>
      rw [he] at t
      exact fun H' lab' cls dx I' st f' xo => t H' lab' cls dx I' ((g1.step).trans st) f' xo
    | ok xs s =>
      rw [he] at t
      simp only at t
      intro vs H' lab' I' st f' rel
      cases hf : inrAll xs with
      | none => rw [hf] at t; exact t.elim
      | some ds =>
        rw [hf] at t
        simp only at t
        have fz := rel.frz hf
        cases hg : gDict1 ds with
        | none => rw [hg] at t; exact t.elim
        | some d =>
          rw [hg] at t
          unfold gDict1 at hg
          split at hg
          · rename_i dk dv
            rw [Option.map_eq_some_iff] at hg
            obtain ⟨key, ek, rfl⟩ := hg
            cases fz with
            | cons hx fz =>
              cases fz with
              | cons hy fz =>
                cases fz
                rename_i y
                have ex := hx.key ek
                subst ex
                obtain ⟨h2, l2⟩ := st p (.dK []) upd_same (fun i => by rw [l0]; exact fun e => nomatch e)
                rw [l0] at l2
                refine ⟨h2, [(key, y)], rfl, by simp, ?_⟩
                have e2 : mergeK [] [(key, y)] = [(key, y)] := rfl
                rw [e2]
                have hm : Mut (H' p) := by rw [h2]; exact (Sh.dK [] []).mut
                have bt : But p lab' H' (labAt lab' p (.tmp j)) (upd H' p (.dK [(key, y)])) := fun a o na e => ⟨by rw [upd_ne na]; exact e, labAt_ne na⟩
                have w2 : Wf (labAt lab' p (.tmp j)) (upd H' p (.dK [(key, y)])) := wf_new I'.wf (Sh.dK [(key, y)] [dv]).mut
                have I2 := I'.but hm l2 bt w2
                have nf : lab' p ≠ .frz := by rw [l2]; exact fun e => nomatch e
                refine t (.ref p) _ (labAt lab' p (.tmp j)) I2 (fun a o e ns => ?_) (fun i hi a e => ?_) (.inr ⟨p, .dK [(key, y)], [dv], [y], rfl, upd_same, labAt_same, ?_, .cons (hy.but hm nf bt) .nil⟩)
                · have na : a ≠ p := ne_of_none e hp
                  obtain ⟨q1, q2⟩ := st a o (by rw [upd_ne na]; exact e) ns
                  exact ⟨by rw [upd_ne na]; exact q1, by rw [labAt_ne na]; exact q2⟩
                · by_cases q : a = p
                  · rw [q, labAt_same] at e
                    cases e
                    omega
                  · rw [labAt_ne q] at e
                    exact f' i (by omega) a e
                · have := Sh.dK [(key, y)] [dv]
                  rw [← keyD_of ek]
                  exact this
          · cases hg
/-- {} -/
def gDicK (ds : List D) : Option D := match ds with
  | [] => some (.dic false [])
  | _ => none
def gDicT (ds : List D) : Option D := match ds with
  | [] => some (.dic true [])
  | _ => none
theorem me_dnewK {pos : Pos} : ME X W (.Dict [] [] pos) true (fApF gDicK []) := pe_mono pe_dnewK fun σ H Q t =>
  apF_ok (r := fun vs H Q => vs = [] ∧ ∀ p, H p = none → Q (.ref p) (upd H p (.dK []))) (args := []) (fun H lab k ds vs d Q w f hd hg q => by
    unfold gDicK at hg
    split at hg
    · cases hg
      cases hd
      exact ⟨rfl, fun p hp => q _ _ (res_obj w f hp (Sh.dK [] []) .nil)⟩
    · cases hg) t |>.2
theorem me_dnewT {pos : Pos} : ME X W (.Dict [] [] pos) true (fApF gDicT []) := pe_mono pe_dnewT fun σ H Q t =>
  apF_ok (r := fun vs H Q => vs = [] ∧ ∀ p, H p = none → Q (.ref p) (upd H p (.dT []))) (args := []) (fun H lab k ds vs d Q w f hd hg q => by
    unfold gDicT at hg
    split at hg
    · cases hg
      cases hd
      exact ⟨rfl, fun p hp => q _ _ (res_obj w f hp (Sh.dT [] []) .nil)⟩
    · cases hg) t |>.2
end
/-! ### repr -/
mutual
/-- a value of the heap and what it tells; no dict is that of sys.modules -/
inductive RdD (h : Heap) : Value → PyData → Prop
  | none : RdD h .none .none
  | bool (b : Bool) : RdD h (.bool b) (.bool b)
  | int (i : Int) (t : Tok) : RdD h (.int i t) (.int i)
  | str (x : Str) (t : Tok) : RdD h (.str x t) (.str x)
  | list {a : Addr} {o : Obj} {us : Array Value} {m : Nat} {ds : List PyData} : h.get? a = some o → o.cls = .type "list" → o.data = .seq us m → RdDs h us.toList ds → RdD h (.ref a) (.list ds)
  | tuple {a : Addr} {o : Obj} {us : Array Value} {m : Nat} {ds : List PyData} : h.get? a = some o → o.cls = .type "tuple" → o.data = .seq us m → RdDs h us.toList ds → RdD h (.ref a) (.tuple ds)
  | dict {a : Addr} {o : Obj} {es : Array DictEntry} {m : Nat} {kvs : List (PyData × PyData)} : h.get? a = some o → o.cls = .type "dict" → o.data = .dict es m → (a == sysModules) = false → RdDs h (es.toList.map fun e => e.key) (kvs.map Prod.fst) →
      RdDs h (es.toList.map fun e => e.val) (kvs.map Prod.snd) → RdD h (.ref a) (.dict kvs)
inductive RdDs (h : Heap) : List Value → List PyData → Prop
  | nil : RdDs h [] []
  | cons {u : Value} {us : List Value} {d : PyData} {ds : List PyData} : RdD h u d → RdDs h us ds → RdDs h (u :: us) (d :: ds)
end
mutual
theorem RdD.rds {h : Heap} : ∀ {u : Value} {d : PyData}, RdD h u d → ∃ as, Reads h u d as
  | _, _, .none => ⟨_, .none⟩
  | _, _, .bool b => ⟨_, .bool b⟩
  | _, _, .int i t => ⟨_, .int i t⟩
  | _, _, .str x t => ⟨_, .str x t⟩
  | _, _, .list g c e t => let ⟨_, q⟩ := RdDs.rds t; ⟨_, .list g c e q⟩
  | _, _, .tuple g c e t => let ⟨_, q⟩ := RdDs.rds t; ⟨_, .tuple g c e q⟩
  | _, _, .dict g c e _ t t' => let ⟨_, q⟩ := RdDs.rds t; let ⟨_, q'⟩ := RdDs.rds t'; ⟨_, .dict g c e q q'⟩
theorem RdDs.rds {h : Heap} : ∀ {us : List Value} {ds : List PyData}, RdDs h us ds → ∃ as, ReadsAll h us ds as
  | _, _, .nil => ⟨_, .nil⟩
  | _, _, .cons r t => let ⟨_, q⟩ := RdD.rds r; let ⟨_, q'⟩ := RdDs.rds t; ⟨_, .cons q q'⟩
end
section
variable {P : Program} {w : World} {h : Heap}
mutual
theorem RdD.rk : ∀ {u : Value} {d : PyData}, RdD h u d → d.showable = true → d.shown.length ≤ sizeLine → ∃ cs, ReadAtMost h d.depth cs ∧ ReprK P w cs h d.depth u d.shown
  | _, _, .none, _, _ => by
    refine ⟨[], fun _ z => (nomatch z), ?_⟩
    simp only [PyData.shown]
    exact ReprK.of_is ReprIs.none _ _ _
  | _, _, .bool b, _, _ => by
    refine ⟨[], fun _ z => (nomatch z), ?_⟩
    simp only [PyData.shown]
    exact ReprK.of_is (ReprIs.bool b) _ _ _
  | _, _, .int i t, ok, _ => by
    refine ⟨[], fun _ z => (nomatch z), ?_⟩
    have ok : i.natAbs.log2 < 1920 := by simpa [PyData.showable] using ok
    simp only [PyData.shown]
    exact ReprK.of_is (ReprIs.int t ok) _ _ _
  | _, _, .str x t, _, fit => by
    refine ⟨[], fun _ z => (nomatch z), ?_⟩
    simp only [PyData.shown] at fit ⊢
    exact ReprK.of_is (ReprIs.str x t fit) _ _ _
  | _, _, .list (a := a) (us := us) (ds := ds) g c e t, ok, fit => by
    simp only [PyData.shown] at fit
    simp only [PyData.showable] at ok
    obtain ⟨cs, most, rk⟩ := RdDs.rk t ok fun x hx => Nat.le_trans (listText_mem_le hx) fit
    obtain ⟨as, rd⟩ := (RdD.list g c e t).rds
    have out : a ∉ cs := not_mem_of_deeper rd (by simp only [PyData.depth]; omega) most
    refine ⟨a :: cs, ReadAtMost.cons rd (by simp only [PyData.depth]; omega) most, ?_⟩
    simp only [PyData.shown, PyData.depth]
    obtain ⟨l⟩ := us
    match l, t with
    | [], t =>
      have : ds = [] := by
        have t' : RdDs h [] ds := t
        cases t'
        rfl
      subst this
      simp only [PyData.shownAll, listText_nil]
      exact ReprK.listEmpty g c e
    | x :: l, t => exact ReprK.list g c e out (by simpa using rk.length_eq) fun i y ey => rk.item i y (by simpa using ey)
  | _, _, .tuple (a := a) (us := us) (ds := ds) g c e t, ok, fit => by
    simp only [PyData.shown] at fit
    simp only [PyData.showable] at ok
    obtain ⟨cs, most, rk⟩ := RdDs.rk t ok fun x hx => Nat.le_trans (tupleText_mem_le hx) fit
    obtain ⟨as, rd⟩ := (RdD.tuple g c e t).rds
    have out : a ∉ cs := not_mem_of_deeper rd (by simp only [PyData.depth]; omega) most
    refine ⟨a :: cs, ReadAtMost.cons rd (by simp only [PyData.depth]; omega) most, ?_⟩
    simp only [PyData.shown, PyData.depth]
    exact ReprK.tuple g c e out rk
  | _, _, .dict (a := a) (es := es) (kvs := kvs) g c e sy t t', ok, fit => by
    simp only [PyData.shown] at fit
    simp only [PyData.showable] at ok
    obtain ⟨ok1, ok2⟩ := PyData.showableKv_split kvs ok
    have fits : ∀ {p : Str}, p ∈ PyData.shownKv kvs → p.length ≤ sizeLine := fun hp => Nat.le_trans (dictText_mem_le hp) fit
    obtain ⟨c1, m1, r1⟩ := RdDs.rk t ok1 fun x hx => by
      obtain ⟨p, hp, hl⟩ := PyData.shownKv_key_le kvs x hx
      exact Nat.le_trans hl (fits hp)
    obtain ⟨c2, m2, r2⟩ := RdDs.rk t' ok2 fun x hx => by
      obtain ⟨p, hp, hl⟩ := PyData.shownKv_val_le kvs x hx
      exact Nat.le_trans hl (fits hp)
    have most : ReadAtMost h (PyData.depthKv kvs) (c1 ++ c2) := ReadAtMost.append (m1.mono (PyData.depthAll_keys_le kvs)) (m2.mono (PyData.depthAll_vals_le kvs))
    obtain ⟨as, rd⟩ := (RdD.dict g c e sy t t').rds
    have out : a ∉ c1 ++ c2 := not_mem_of_deeper rd (by simp only [PyData.depth]; omega) most
    refine ⟨a :: (c1 ++ c2), ReadAtMost.cons rd (by simp only [PyData.depth]; omega) most, ?_⟩
    simp only [PyData.shown, PyData.depth, PyData.shownKv_eq]
    refine ReprK.dict g c e sy out (ReprEntriesK.of_two es.toList _ _ (r1.more_le (fun b q => ?_) (PyData.depthAll_keys_le kvs)) (r2.more_le (fun b q => ?_) (PyData.depthAll_vals_le kvs)))
    · exact List.mem_append_left _ q
    · exact List.mem_append_right _ q
theorem RdDs.rk : ∀ {us : List Value} {ds : List PyData}, RdDs h us ds → PyData.showableAll ds = true → (∀ x ∈ PyData.shownAll ds, x.length ≤ sizeLine) → ∃ cs, ReadAtMost h (PyData.depthAll ds) cs ∧ ReprAllK P w cs h (PyData.depthAll ds) us (PyData.shownAll ds)
  | _, _, .nil, _, _ => by
    refine ⟨[], fun _ z => (nomatch z), ?_⟩
    simp only [PyData.shownAll]
    exact ReprAllK.nil
  | _, _, .cons (d := d) (ds := ds) r t, ok, fit => by
    simp only [PyData.showableAll, Bool.and_eq_true] at ok
    simp only [PyData.shownAll] at fit
    obtain ⟨c1, m1, r1⟩ := RdD.rk r ok.1 (fit _ (by simp))
    obtain ⟨c2, m2, r2⟩ := RdDs.rk t ok.2 fun x hx => fit x (by simp [hx])
    have le1 : d.depth ≤ PyData.depthAll (d :: ds) := by simp only [PyData.depthAll]; exact Nat.le_max_left _ _
    have le2 : PyData.depthAll ds ≤ PyData.depthAll (d :: ds) := by simp only [PyData.depthAll]; exact Nat.le_max_right _ _
    refine ⟨c1 ++ c2, ReadAtMost.append (m1.mono le1) (m2.mono le2), ?_⟩
    simp only [PyData.shownAll]
    refine .cons ((r1.more fun b q => ?_).level_le le1) (r2.more_le (fun b q => ?_) le2)
    · exact List.mem_append_left _ q
    · exact List.mem_append_right _ q
end
variable {A : Around} {E : Value → Shared → Prop} {s : Shared} {Q : Value → Shared → Prop}
/-- repr of a list, a tuple, a dict -/
theorem repr_rd {a : Addr} {d : PyData} (r : RdD s.heap (.ref a) d) (ok : d.showable = true) (fit : d.shown.length ≤ sizeLine) (hg : A.guards = some []) (hu : A.units + (d.depth + 1) < cLine)
    (q : ∀ h' u tk, (∀ b o, s.heap.get? b = some o → h'.get? b = some o) → Q (.str d.shown u) { s with heap := h', toks := tk }) : wpAny (model P w) A (call (.builtin "repr") [.ref a]) Q E s := by
  have stay : ∀ b o, s.heap.get? b = some o → s.heap.get? b = some o := fun _ _ e => e
  cases r with
  | list g c e t =>
    rename_i o us m ds
    obtain ⟨as, rd⟩ := (RdD.list g c e t).rds
    simp only [PyData.shown] at fit q
    simp only [PyData.showable] at ok
    simp only [PyData.depth] at hu
    obtain ⟨cs, most, rk⟩ := RdDs.rk (P := P) (w := w) t ok fun x hx => Nat.le_trans (listText_mem_le hx) fit
    have out : a ∉ cs := not_mem_of_deeper rd (by simp only [PyData.depth]; omega) most
    refine call_repr_slot (T := "list") (by omega) ⟨o, g, c⟩ F.slot_list_repr.toG ?_
    obtain ⟨l⟩ := us
    match l, t, rk with
    | [], t, rk =>
      have : ds = [] := by
        have t' : RdDs s.heap [] ds := t
        cases t'
        rfl
      subst this
      simp only [PyData.shownAll, listText_nil] at q
      exact call_list_repr_empty ⟨o, g, c⟩ g e ⟨_, _, rfl, q s.heap _ _ stay⟩
    | x :: l, t, rk => exact call_list_reprK g c e out (by simpa using rk.length_eq) (fun i y ey => rk.item i y (by simpa using ey)) hg (fun b _ => Clear.nil b) (by show A.units + 1 + _ < cLine; omega) stay (fun h' u tk k => ⟨_, _, rfl, q h' u tk k⟩) fit
  | tuple g c e t =>
    rename_i o us m ds
    obtain ⟨as, rd⟩ := (RdD.tuple g c e t).rds
    simp only [PyData.shown] at fit q
    simp only [PyData.showable] at ok
    simp only [PyData.depth] at hu
    obtain ⟨cs, most, rk⟩ := RdDs.rk (P := P) (w := w) t ok fun x hx => Nat.le_trans (tupleText_mem_le hx) fit
    have out : a ∉ cs := not_mem_of_deeper rd (by simp only [PyData.depth]; omega) most
    refine call_repr_slot (T := "tuple") (by omega) ⟨o, g, c⟩ F.slot_tuple_repr ?_
    exact call_tuple_reprK g c e out rk hg (fun b _ => Clear.nil b) (by show A.units + 1 + _ < cLine; omega) stay (fun h' u tk k => ⟨_, _, rfl, q h' u tk k⟩) fit
  | dict g c e sy t t' =>
    rename_i o es m kvs
    obtain ⟨as, rd⟩ := (RdD.dict g c e sy t t').rds
    have fit0 := fit
    simp only [PyData.shown] at fit q
    simp only [PyData.showable] at ok
    simp only [PyData.depth] at hu
    obtain ⟨ok1, ok2⟩ := PyData.showableKv_split kvs ok
    have fits : ∀ {p : Str}, p ∈ PyData.shownKv kvs → p.length ≤ sizeLine := fun hp => Nat.le_trans (dictText_mem_le hp) fit
    obtain ⟨c1, m1, r1⟩ := RdDs.rk (P := P) (w := w) t ok1 fun x hx => by
      obtain ⟨p, hp, hl⟩ := PyData.shownKv_key_le kvs x hx
      exact Nat.le_trans hl (fits hp)
    obtain ⟨c2, m2, r2⟩ := RdDs.rk (P := P) (w := w) t' ok2 fun x hx => by
      obtain ⟨p, hp, hl⟩ := PyData.shownKv_val_le kvs x hx
      exact Nat.le_trans hl (fits hp)
    have most : ReadAtMost s.heap (PyData.depthKv kvs) (c1 ++ c2) := ReadAtMost.append (m1.mono (PyData.depthAll_keys_le kvs)) (m2.mono (PyData.depthAll_vals_le kvs))
    have out : a ∉ c1 ++ c2 := not_mem_of_deeper rd (by simp only [PyData.depth]; omega) most
    rw [PyData.shownKv_eq] at fit q
    refine call_repr_slot (T := "dict") (by omega) ⟨o, g, c⟩ F.slot_dict_repr ?_
    refine call_dict_reprK g c e sy out (ReprEntriesK.of_two es.toList _ _ (r1.more_le (fun b q => List.mem_append_left _ q) (PyData.depthAll_keys_le kvs)) (r2.more_le (fun b q => List.mem_append_right _ q) (PyData.depthAll_vals_le kvs))) hg (fun b _ => Clear.nil b) (by show A.units + 1 + _ < cLine; omega) stay (fun h' u tk k => ⟨_, _, rfl, q h' u tk k⟩) fit
end
mutual
/-- as plain data, dicts too -/
def D.pyD : D → Option PyData
  | .non => some .none
  | .bl b => some (.bool b)
  | .int i => some (.int i)
  | .str s => some (.str s)
  | .tup xs => (D.pysD xs).map .tuple
  | .lst xs => (D.pysD xs).map .list
  | .dic false kvs => (D.pykD kvs).map .dict
  | _ => none
def D.pysD : List D → Option (List PyData)
  | [] => some []
  | d :: r => match d.pyD, D.pysD r with
    | some p, some ps => some (p :: ps)
    | _, _ => none
def D.pykD : List (D × D) → Option (List (PyData × PyData))
  | [] => some []
  | (k, d) :: r => match k.pyD, d.pyD, D.pykD r with
    | some q, some p, some ps => some ((q, p) :: ps)
    | _, _, _ => none
end
section
variable {X : Cx} {pins : List (Addr × Obj)} {σ : L2.St} {H : Hp} {s : Shared} {lab : Labs}
theorem pyk_split : ∀ {kvs : List (D × D)} {ps : List (PyData × PyData)}, D.pykD kvs = some ps → D.pysD (kvs.map Prod.fst) = some (ps.map Prod.fst) ∧ D.pysD (kvs.map Prod.snd) = some (ps.map Prod.snd)
  | [], _, e => by simp [D.pykD] at e; subst e; exact ⟨rfl, rfl⟩
  | (k, d) :: r, _, e => by
    simp only [D.pykD] at e
    split at e
    · rename_i q p ps h1 h2 h3
      cases e
      obtain ⟨a, b⟩ := pyk_split h3
      exact ⟨by simp [D.pysD, h1, a], by simp [D.pysD, h2, b]⟩
    · cases e
theorem keys_rd {h : Heap} : ∀ {kvs : List (Key × V)} {vs : List (Key × Value)} {es : List DictEntry} {ps : List PyData}, KV kvs vs → Pairs (mixKind X.prog X.w) es vs → D.pysD (kvs.map fun p => keyD p.1) = some ps → RdDs h (es.map fun e => e.key) ps
  | _, _, _, _, .nil, .nil, e => by simp [D.pysD] at e; subst e; exact .nil
  | _, _, _, _, .cons (a := p) (b := q) hp t, .cons (e := en) h1 h2 t', e => by
    rw [List.map_cons] at e
    simp only [D.pysD] at e
    split at e
    · rename_i x xs e1 e2
      cases e
      rw [List.map_cons]
      refine .cons ?_ (keys_rd t t' e2)
      have ek : p.1 = q.1 := hp.1
      rw [← ek] at h1
      rcases keyIs_shape (show keyIs p.1 en.key = true from h1) with ⟨j, tk, z1, z2⟩ | ⟨y, tk, z1, z2⟩
      all_goals
        first
          | (rw [z1] at e1; rw [z2]; simp only [keyD, D.pyD] at e1; cases e1; exact .int _ _)
          | (rw [z1] at e1; rw [z2]; simp only [keyD, D.pyD] at e1; cases e1; exact .str _ _)
          | (rw [z2] at e1; rw [z1]; simp only [keyD, D.pyD] at e1; cases e1; exact .int _ _)
          | (rw [z2] at e1; rw [z1]; simp only [keyD, D.pyD] at e1; cases e1; exact .str _ _)
    · cases e
theorem ents_vals : ∀ {kvs : List (Key × V)} {vs : List (Key × Value)} {es : List DictEntry}, KV kvs vs → Pairs (mixKind X.prog X.w) es vs → Vals (kvs.map Prod.snd) (es.map fun e => e.val)
  | _, _, _, .nil, .nil => .nil
  | _, _, _, .cons hp t, .cons h1 h2 t' => by
    rw [List.map_cons, List.map_cons]
    refine .cons ?_ (ents_vals t t')
    rw [h2]
    exact hp.2
theorem zip_keys {ks : List D} {ds : List D} (h : ks.length = ds.length) : (ks.zip ds).map Prod.fst = ks ∧ (ks.zip ds).map Prod.snd = ds := ⟨zip_fst h, zip_snd h⟩
mutual
/-- what a value tells, by the abstract heap -/
inductive DpD (H : Hp) : V → PyData → Prop where
  | non : DpD H .non .none
  | bl (b : Bool) : DpD H (.bl b) (.bool b)
  | int (i : Int) : DpD H (.int i) (.int i)
  | str (x : Str) : DpD H (.str x) (.str x)
  | tup {a : Addr} {vs : List V} {ps : List PyData} : H a = some (.tup vs) → DpDs H vs ps → DpD H (.ref a) (.tuple ps)
  | lst {a : Addr} {vs : List V} {ps : List PyData} : H a = some (.lst vs) → DpDs H vs ps → DpD H (.ref a) (.list ps)
  | dic {a : Addr} {kvs : List (Key × V)} {vs : List V} {qps : List (PyData × PyData)} : H a = some (.dK kvs) → vs = kvs.map Prod.snd → D.pysD (kvs.map fun p => keyD p.1) = some (qps.map Prod.fst) → DpDs H vs (qps.map Prod.snd) → DpD H (.ref a) (.dict qps)
inductive DpDs (H : Hp) : List V → List PyData → Prop where
  | nil : DpDs H [] []
  | cons {v : V} {vs : List V} {p : PyData} {ps : List PyData} : DpD H v p → DpDs H vs ps → DpDs H (v :: vs) (p :: ps)
end
mutual
theorem Frz.dpD : ∀ {d : D} {v : V} {p : PyData}, Frz X.K H lab d v → d.pyD = some p → DpD H v p
  | _, _, _, .non, e => by simp [D.pyD] at e; subst e; exact .non
  | _, _, _, .bl b, e => by simp [D.pyD] at e; subst e; exact .bl b
  | _, _, _, .int b, e => by simp [D.pyD] at e; subst e; exact .int b
  | _, _, _, .str b, e => by simp [D.pyD] at e; subst e; exact .str b
  | _, _, _, .ty b, e => by simp [D.pyD] at e
  | _, _, _, .tup h t, e => by
    simp only [D.pyD, Option.map_eq_some_iff] at e
    obtain ⟨ps, e, rfl⟩ := e
    exact .tup h (FrzL.dpDs t e)
  | _, _, _, .ro h t, e => by simp [D.pyD] at e
  | _, _, _, .obj (ds := ds) (vs := vs) h l sh t, e => by
    have sub : ∀ ps, D.pysD ds = some ps → DpDs H vs ps := fun ps e => FrzL.dpDs t e
    have ln := t.length
    clear t
    cases sh with
    | lst =>
      simp only [D.pyD, Option.map_eq_some_iff] at e
      obtain ⟨ps, e, rfl⟩ := e
      exact .lst h (sub _ e)
    | dK kvs =>
      simp only [D.pyD, Option.map_eq_some_iff] at e
      obtain ⟨ps, e, rfl⟩ := e
      obtain ⟨e1, e2⟩ := pyk_split e
      have hl : (kvs.map fun p => keyD p.1).length = ds.length := by rw [List.length_map]; rw [List.length_map] at ln; omega
      obtain ⟨z1, z2⟩ := zip_keys hl
      rw [z1] at e1
      rw [z2] at e2
      exact .dic h rfl e1 (sub _ e2)
    | dT => simp [D.pyD] at e
    | set => simp [D.pyD] at e
theorem FrzL.dpDs : ∀ {ds : List D} {vs : List V} {ps : List PyData}, FrzL X.K H lab ds vs → D.pysD ds = some ps → DpDs H vs ps
  | _, _, _, .nil, e => by simp [D.pysD] at e; subst e; exact .nil
  | d :: ds, _, _, .cons h t, e => by
    simp only [D.pysD] at e
    cases h1 : d.pyD with
    | none => rw [h1] at e; cases e
    | some p =>
      cases h2 : D.pysD ds with
      | none => rw [h1, h2] at e; cases e
      | some ps =>
        rw [h1, h2] at e
        cases e
        exact .cons (Frz.dpD h h1) (FrzL.dpDs t h2)
end
mutual
theorem DpD.rd (I : Inv X pins σ H s) : ∀ {v : V} {p : PyData}, DpD H v p → ∀ {u : Value}, RelV v u → RdD s.heap u p
  | _, _, .non, _, r => by cases r; exact .none
  | _, _, .bl b, _, r => by cases r; exact .bool b
  | _, _, .int b, _, r => by obtain ⟨t, rfl⟩ := r; exact .int b t
  | _, _, .str b, _, r => by obtain ⟨t, rfl⟩ := r; exact .str b t
  | _, _, .tup (a := a) h t, _, r => by
    cases r
    obtain ⟨its, rv, ⟨o, ho, hc, n, hd⟩, _⟩ := I.tuple (a := a) (.inl (.inl h))
    exact .tuple ho hc hd (by simpa using DpDs.rd I t rv)
  | _, _, .lst (a := a) h t, _, r => by
    cases r
    obtain ⟨its, rv, ⟨o, n, ho, hc, _, hd⟩, _⟩ := I.list (a := a) (.inl (.inl h))
    exact .list ho hc hd (by simpa using DpDs.rd I t rv)
  | _, _, .dic (a := a) h ev e1 t, _, r => by
    cases r
    obtain ⟨_, sy, vs, kv, o, es, ep, ho, hc, hdt, _, pr, _⟩ := dk_of I.hok h
    exact .dict ho hc.1 hdt sy (keys_rd (X := X) kv pr e1) (DpDs.rd I t (by rw [ev]; exact ents_vals (X := X) kv pr))
theorem DpDs.rd (I : Inv X pins σ H s) : ∀ {vs : List V} {ps : List PyData}, DpDs H vs ps → ∀ {us : List Value}, Vals vs us → RdDs s.heap us ps
  | _, _, .nil, _, r => by cases r; exact .nil
  | _, _, .cons h t, _, r => by
    cases r with
    | cons r rs => exact .cons (DpD.rd I h r) (DpDs.rd I t rs)
end
theorem Frz.rdD (I : Inv X pins σ H s) {d : D} {v : V} {p : PyData} {u : Value} (h : Frz X.K H lab d v) (e : d.pyD = some p) (r : RelV v u) : RdD s.heap u p := (h.dpD e).rd I r
/-- a world in which what is owned is as if frozen -/
theorem Rdv.rdD (I : Inv X pins σ H s) {d : D} {v : V} {p : PyData} {u : Value} (h : Rdv X.K H lab d v) (e : d.pyD = some p) (r : RelV v u) : RdD s.heap u p := by
  rcases h with h | ⟨l, a, o, ds, vs, rfl, ha, _, sh, t⟩
  · exact h.rdD I e r
  · have f : Frz X.K H (labAt lab a .frz) d (.ref a) := .obj ha labAt_same sh (FrzL.relab (fun b e => by
      by_cases q : b = a
      · rw [q]; exact labAt_same
      · rw [labAt_ne q]; exact e) t)
    exact f.rdD I e r
/-- the thing tells p, in each heap that is as H says -/
def rReprB (X : Cx) : List V → Hp → VK → Prop := fun xs H Q => ∃ x p, xs = [x] ∧ (∃ a, x = .ref a) ∧ (∀ (pins : List (Addr × Obj)) (σ : L2.St) (s : Shared) (u : Value), Inv X pins σ H s → RelV x u → RdD s.heap u p) ∧ p.showable = true ∧ p.depth ≤ 60 ∧ p.shown.length ≤ 16000000 ∧ Q (.str p.shown) H
theorem call_reprB (hgd : X.A.guards = some []) (hu : X.A.units + 65 < cLine) : CallR X (.builtin "repr") (rReprB X) := by
  intro pins s σ H xs us Q I rel h
  obtain ⟨x, p, rfl, ⟨a, rfl⟩, rd, hs, hdep, hl, q⟩ := h
  obtain ⟨u, rfl, ru⟩ := vals1 rel
  have := rd pins σ s u I ru
  cases ru
  exact repr_rd this hs (lineBig hl) hgd (by omega) fun h' u tk hk => ⟨.str p.shown, H, I.kept hk, ⟨_, rfl⟩, q⟩
end
def reprQ (d : D) : Option Str := match d with
  | .tup _ => go d
  | .lst _ => go d
  | .dic _ _ => go d
  | _ => none
where go (d : D) : Option Str := match d.pyD with
  | some p => if p.showable = true ∧ p.depth ≤ 60 ∧ p.shown.length ≤ 16000000 then some p.shown else none
  | none => none
def gReprB (ds : List D) : Option D := match gRepr ds with
  | some d => some d
  | none => match ds with
    | [d] => (reprQ d).map .str
    | _ => none
section
variable {X : Cx}
theorem reprB_ok : OpOk X.K gReprB true (fun vs H Q => rReprD X.K vs H Q ∨ rReprB X vs H Q) := fun H lab k ds vs d Q w fr rd hg q => by
  unfold gReprB at hg
  split at hg
  · rename_i d' hd
    cases hg
    exact .inl (repr_ok H lab k ds vs _ Q w fr rd hd q)
  · split at hg
    · rename_i dd _
      simp only [Option.map_eq_some_iff] at hg
      obtain ⟨st, hs, rfl⟩ := hg
      obtain ⟨v, rfl, r⟩ := rd.one
      have main : reprQ.go dd = some st → (∃ a, v = .ref a) → rReprD X.K [v] H Q ∨ rReprB X [v] H Q := fun hs ha => by
        unfold reprQ.go at hs
        split at hs
        · rename_i p hp
          split at hs
          · rename_i hc
            cases hs
            exact .inr ⟨v, p, rfl, ha, fun pins σ s u I ru => r.rdD I hp ru, hc.1, hc.2.1, hc.2.2, q _ _ (res_pure w fr (.str _) (.inr rfl))⟩
          · cases hs
        · cases hs
      have ref_of : (∃ l a o ds vs, v = V.ref a ∧ H a = some o ∧ lab a = l ∧ Sh o dd ds vs ∧ FrzL X.K H lab ds vs) → ∃ a, v = .ref a := fun ⟨l, a, _, _, _, e, _⟩ => ⟨a, e⟩
      have isref : (∃ xs, dd = .tup xs) ∨ dd.mut = true → ∃ a, v = .ref a := fun hx => by
        rcases r with r | ⟨l, a, o, ds, vs, e, _⟩
        · cases r <;> first
            | exact ⟨_, rfl⟩
            | (rcases hx with ⟨xs, e⟩ | e <;> cases e)
        · exact ⟨a, e⟩
      unfold reprQ at hs
      split at hs
      · exact main hs (isref (.inl ⟨_, rfl⟩))
      · exact main hs (isref (.inr rfl))
      · exact main hs (isref (.inr rfl))
      · cases hs
    · cases hg
theorem call_reprU (hgd : X.A.guards = some []) (hu : X.A.units + 65 < cLine) : CallR X (.builtin "repr") (fun vs H Q => rReprD X.K vs H Q ∨ rReprB X vs H Q) := CallR.or (call_reprD hgd hu) (call_reprB hgd hu)
end
end PV
set_option maxHeartbeats 4000000
/-! PV 21: tuples, so many times -/
namespace PV
open PySem PySem.Spec PyProof.Rows L2
theorem once_tuple (l : Addr) (its : Array Value) (n : Nat) (dd : Option Addr) (sl : Array (Option Value)) (u : Tok) :
    Meets (Builtin.«tuple.__mul__» ⟨[.ref l, .int 1 u], []⟩) (fun _ R s => s.heap.get? l = some { cls := .type "tuple", dict := dd, data := .seq its n, slots := sl } ∧ R (.ok (.ret (.ref l))) s) :=
  .of_wp fun prog w A R s g => by
    obtain ⟨hp, ge, os, tk, o⟩ := s
    obtain ⟨at_, g⟩ := g
    have ix := AutoSeq1.idx_int
    wp_walk using wpAny_loadPart' at_
    exact ⟨_, rfl, g⟩
def rOnce (K : PySem.W.Frag) : R2 := fun x y H Q => ∃ l xs, x = .ref l ∧ y = .int 1 ∧ SqT K H l xs ∧ Q (.ref l) H
theorem op_once {X : Cx} : OpR X (binaryOp .Mult) (rOnce X.K) := by
  intro pins s σ H x y v u Q I rx ry h
  obtain ⟨l, xs, rfl, rfl, tp, q⟩ := h
  cases rx
  obtain ⟨t, rfl⟩ := ry
  obtain ⟨its, r, ⟨⟨cls, dd, data, sl⟩, ho, hc, n, hd⟩, hs⟩ := I.tuple tp
  simp only at hc hd
  subst hc hd
  refine wpAny_binaryOp_repeat_ref (T := "tuple") (U := "int") (by decide) ⟨_, ho, rfl⟩ (fun s' => typeIs_int s' 1 t) noFill_tuple_mul F.fills_int_mul F.slot_int_rmul repeat_tuple F.slot_int_index.lookup ?_
  refine call_meets F.slot_int_rmul (typeIs_int s 1 t) F.entry_int_rmul (F.args_int_rmul_2 _ _) (int_rmul_tuple 1 t l its.toArray n dd sl) ⟨ho, rfl, ⟨_, ho, rfl⟩, ?_⟩
  refine call_meets F.slot_tuple_mul ⟨_, ho, rfl⟩ F.entry_tuple_mul (F.args_tuple_mul_2 _ _) (once_tuple l its.toArray n dd sl t) ⟨ho, ?_⟩
  exact ⟨.ref l, _, I, rfl, q⟩
/-- a tuple that stands there, so many times -/
def gMulT : List D → Option D
  | [.tup a, .int k] => if a ≠ [] ∧ a.length ≤ 1000 ∧ 1 ≤ k ∧ k ≤ 1000 then some (.tup (List.replicate k.toNat a).flatten) else none
  | _ => none
def rMulT (K : PySem.W.Frag) : R2 := fun x y H Q => rOnce K x y H Q ∨ rRepT K x y H Q
theorem op_mulT {X : Cx} : OpR X (binaryOp .Mult) (rMulT X.K) := OpR.or op_once op_repT
theorem mulT_ok {K : PySem.W.Frag} : OpOk K gMulT true (b2 (rMulT K)) := fun H lab k ds vs d Q w fr rd hg q => by
  unfold gMulT at hg
  split at hg
  · rename_i a k
    split at hg
    · rename_i hc
      obtain ⟨ne, la, k1, k2⟩ := hc
      cases hg
      obtain ⟨v, u, rfl, r1, r2⟩ := rd.two
      obtain ⟨l, xs, rfl, h1, t1⟩ := r1.tup_at
      rw [r2.int_inv]
      by_cases e : k = 1
      · subst e
        have e1 : (List.replicate (1 : Int).toNat a).flatten = a := by show (List.replicate 1 a).flatten = a; simp
        rw [e1] at q
        exact .inl ⟨l, xs, rfl, rfl, .inl (.inl h1), q _ _ (res_pure w fr (.tup h1 t1) (.inr rfl))⟩
      · refine .inr ⟨l, k, xs, rfl, rfl, .inl (.inl h1), fun z => ?_, by omega, k2, by rw [← t1.length]; exact la, fun p hp => q _ _ (res_tup w fr hp (t1.rep _))⟩
        have := t1.length
        rw [z] at this
        exact ne (List.eq_nil_of_length_eq_zero this)
    · cases hg
  · cases hg
end PV
set_option maxHeartbeats 4000000
/-! PV 22: enumerate of a tuple -/
namespace PV
open PySem PySem.Spec PyProof.Rows L2
/-- what enumerate(v) makes: v's iterator, its own cells -/
theorem new_enumB {v : Value} {ob : Obj} {P : Heap → Prop} (B : Begins v ob P) :
    Meets (Builtin.«enumerate.__new__» ⟨[.type "enumerate", v], []⟩) (fun _ R s => P s.heap ∧
      R (.ok (.ret (.ref (s.heap.push ob).objs.size))) { s with heap := (s.heap.push ob).push { cls := .type "enumerate", data := .fields #[.none, .bool false, .ref s.heap.objs.size, rawInt 0, .none, .none] } }) :=
  .of_wp fun prog w A R s z => by
    obtain ⟨hp, ge, dr, tk, o⟩ := s
    obtain ⟨z1, z2⟩ := z
    have sub := sub_enumerate
    have it : ∀ {A' : Around} {E : Value → Shared → Prop} {Q : Value → Shared → Prop}, Q (.ref hp.objs.size) ⟨hp.push ob, ge, dr, tk, o⟩ → wpAny (model prog w) A' (pyIter v) Q E ⟨hp, ge, dr, tk, o⟩ :=
      fun q => B.iter prog w _ _ ⟨hp, ge, dr, tk, o⟩ _ z1 q
    wp_walk using it
    refine wpAny_stack_any fun st => wpAny_pure ?_
    split
    · rename_i c _ _ _ _ _
      cases (c == Value.type "enumerate")
      all_goals
        wp_walk using it
        exact ⟨_, rfl, z2⟩
    · wp_walk using it
      exact ⟨_, rfl, z2⟩
theorem call_enumB {prog : Program} {w : World} {A : Around} {E : Value → Shared → Prop} {s : Shared} {v : Value} {ob : Obj} {P : Heap → Prop} {Q : Value → Shared → Prop} (B : Begins v ob P) (z : P s.heap)
    (q : ∀ h', IsEnum h' (s.heap.objs.size + 1) s.heap.objs.size 0 .none → h'.get? s.heap.objs.size = some ob → (∀ b o, s.heap.get? b = some o → h'.get? b = some o) → Q (.ref (s.heap.objs.size + 1)) { s with heap := h' }) :
    wpAny (model prog w) A (call (.type "enumerate") [v]) Q E s := by
  refine callType_new F.called_enumerate (by decide) (F.typeCall_enumerate_1 _) (F.newCall_enumerate_1 _) (fun obj => F.args_object_init_2 obj _) F.entry_enumerate_new (new_enumB B) ⟨z, ?_⟩
  have e1 : (s.heap.push ob).objs.size = s.heap.objs.size + 1 := Heap.size_push ..
  show _ ∧ _
  rw [e1]
  have e2 : IsEnum ((s.heap.push ob).push { cls := .type "enumerate", data := .fields #[.none, .bool false, .ref s.heap.objs.size, rawInt 0, .none, .none] }) (s.heap.objs.size + 1) s.heap.objs.size 0 .none := by
    have g := Heap.get?_push_size (s.heap.push ob) (o := { cls := .type "enumerate", data := .fields #[.none, .bool false, .ref s.heap.objs.size, rawInt 0, .none, .none] }) rfl
    rw [e1] at g
    exact g
  exact ⟨⟨_, e2, rfl⟩, q _ e2 (Heap.get?_push_of_some _ (Heap.get?_push_size _ B.free)) fun b o x => Heap.get?_push_of_some _ (Heap.get?_push_of_some _ x)⟩
/-- the tuple at a, each item in a new pair -/
def IteT (K : PySem.W.Frag) (a : Addr) : It where
  go := fun i H => ∃ (xs : List V) (x : V), SqT K H a xs ∧ xs[i]? = some x
  yld := fun i H v H' => ∃ T x, v = .ref T ∧ H T = none ∧ H' = upd H T (.tup [.int (i : Nat), x]) ∧ ∀ xs, SqT K H a xs → xs[i]? = some x
  stop := fun i H => ∃ xs : List V, SqT K H a xs ∧ xs.length ≤ i
theorem turn_enumT {P : Program} {w : World} {K : PySem.W.Frag} {elts : List Expr} {kk : Nat} {tpos : Pos} (a e it : Addr) :
    Turn P w K (.Tuple elts kk tpos) (IteT K a) [e, it] e (fun i h => (∃ old, IsEnum h e it ((i : Nat) : Int) old) ∧ h.IsTupleIter it a i ∧ e ≠ it) where
  mem := List.mem_cons_self ..
  obj := fun i h st b hb => by
    obtain ⟨⟨old, q⟩, ⟨o, ho, hc, hd⟩, _⟩ := st
    simp only [List.mem_cons, List.not_mem_nil, or_false] at hb
    rcases hb with rfl | rfl
    · exact ⟨_, q, fun v z => nomatch z⟩
    · exact ⟨o, ho, fun v z => by rw [hd] at z; cases z⟩
  keep := fun i h h' st k => by
    obtain ⟨⟨old, q⟩, hi, ne⟩ := st
    exact ⟨⟨old, k e (by simp) _ q⟩, hi.at fun o z => k it (by simp) o z, ne⟩
  item := by
    intro X hP hw hK hc i pins s σ H E I hf st hg
    subst hP hw hK
    obtain ⟨⟨old, he⟩, hit, hne⟩ := st
    obtain ⟨xs, x, hq, hx⟩ := hg
    obtain ⟨its, rv, p, hz⟩ := I.tuple hq
    obtain ⟨u, hu, ru⟩ := rv.get hx
    have hel : e < s.heap.objs.size := Heap.lt_size he
    have hil : it < s.heap.objs.size := by obtain ⟨_, q, _⟩ := hit; exact Heap.lt_size q
    have ai : a ≠ it := fun z => by
      subst z
      obtain ⟨o1, g1, c1, _⟩ := hit
      obtain ⟨o2, g2, c2, _⟩ := p
      rw [g1] at g2
      cases g2
      rw [c1] at c2
      injection c2 with c2
      exact absurd c2 (by decide)
    have ae : e ≠ a := fun z => by
      subst z
      obtain ⟨o2, g2, c2, _⟩ := p
      rw [he] at g2
      cases g2
      injection c2 with c2
      exact absurd c2 (by decide)
    have dr := Draws.tuple (prog := X.prog) (w := X.w) (A := X.A.in1) (I.ok.hd hc) it a ai its.toArray
    refine wpAny_pyNext_enum_itemD dr he ⟨hit, p⟩ ?_ hne ?_ fun x' h' tk px ho hit' hT hsz hk => ?_
    · have := (List.getElem?_eq_some_iff.mp hu).1
      simpa using this
    · simp only [List.mem_cons, List.not_mem_nil, or_false, not_or]
      exact ⟨hne, ae⟩
    have ex : x' = u := by
      have q : its.toArray[i]? = some u := by simpa using hu
      rw [q] at px
      exact (Option.some.inj px).symm
    subst ex
    refine ⟨_, rfl, wpAny_letOwnedTupleGo_enum (s := { s with heap := h', toks := tk + 1 }) ho fun h'' he' sb => ?_⟩
    have hT2 : h''.get? s.heap.objs.size = some { cls := .type "tuple", data := .seq #[.int i tk, x'] } := (sb.2 _ (Nat.ne_of_gt hel)).trans hT
    have new : ObjOk X.prog X.w (upd H s.heap.objs.size (.tup [.int (i : Nat), x])) h'' s.heap.objs.size (.tup [.int (i : Nat), x]) :=
      ⟨by show 2 ≤ sizeLine; decide, [.int i tk, x'], .cons ⟨_, rfl⟩ (.cons ru .nil), ⟨_, hT2, rfl, _, rfl⟩⟩
    have I1 : Inv X pins σ (upd H s.heap.objs.size (.tup [.int (i : Nat), x])) { s with heap := h'', toks := tk + 1 } :=
      I.turnedNew (ch := [e, it]) (fun b ob hb q => (sb.2 b (fun z => hb (by simp [z]))).trans (hk b ob (fun z => hb (by simp [z])) (fun z => hb (by simp [z])) q)) hf (Nat.le_refl _) new
    refine ⟨.ref s.heap.objs.size, _, I1, rfl, ⟨_, x, rfl, I.hok.fresh (Nat.le_refl _), rfl, fun ys hy => ?_⟩, ⟨⟨x', ?_⟩, ?_, hne⟩, fun b hb => ?_⟩
    · rw [I.tuple_inj hy hq]
      exact hx
    · have e1 : ((i + 1 : Nat) : Int) = (i : Int) + 1 := by omega
      rw [e1]
      exact he'
    · exact hit'.1.at fun o q => (sb.2 it (Ne.symm hne)).trans q
    · have hb' : b < s.heap.objs.size := by
        simp only [List.mem_cons, List.not_mem_nil, or_false] at hb
        rcases hb with rfl | rfl
        · exact hel
        · exact hil
      rw [upd_ne (Nat.ne_of_lt hb')]
      exact (hf b hb).1
  done := by
    intro X hP hw hK hc i pins s σ H E I hf st hg
    subst hP hw hK
    obtain ⟨⟨old, he⟩, hit, hne⟩ := st
    obtain ⟨xs, hq, hx⟩ := hg
    obtain ⟨its, rv, p, hz⟩ := I.tuple hq
    obtain ⟨f0, f1, f2, f3, f4, f5⟩ := hf it (by simp)
    have hl := rv.length
    have no : its.toArray[i]? = none := by simp; omega
    have hh : X.A.in1.handled = none := I.ok.hd hc
    have dr : Draws X.prog X.w X.A.in1 it [it, a] i (fun _ _ => False) (fun j h => j = i ∧ h.IsTupleIter it a i ∧ h.IsTuple a its.toArray) := {
      live := fun _ _ st => by obtain ⟨_, ⟨o, ho, _⟩, _⟩ := st; exact ⟨o, ho⟩
      frame := fun _ _ _ st hk => ⟨st.1, st.2.1.at fun o e => hk it (by simp) o e, st.2.2.at fun o e => hk a (by simp) o e⟩
      item := fun j s Q E hj st => absurd st.1 (by omega)
      done := fun s Q E st hE => wpAny_nextOf_tuple_end hh st.2.1 st.2.2 no hE }
    exact wpAny_pyNext_enum_endD dr he ⟨rfl, hit, p⟩ fun h' eb => ⟨rfl, I.turned (t' := s.toks) (fun b o hb q => eb b o hb q) f0 f1 f3 f4 f5⟩
  self := fun A i s Q E st h => by
    obtain ⟨⟨_, he⟩, _⟩ := st
    exact wpAny_pyIter_enum he h
def iEnumT (K : PySem.W.Frag) (ta : TA) : TI := fun σ H R => ta σ H fun vs H1 => ∃ a xs, vs = [.ref a] ∧ ((SqL K H1 a xs ∧ R (Ite K a) H1) ∨ (SqT K H1 a xs ∧ R (IteT K a) H1))
theorem pi_enumA {X : Cx} {e : Expr} {ta : TA} {p pos tpos : Pos} {elts : List Expr} {kk : Nat} (hg : Gl X "enumerate") (hm : X.mg "enumerate" = none) (ha : PA X [e] ta) (hs : starEach [e] X.env = [(false, eval e X.env)] := by rfl) :
    PI X (.Tuple elts kk tpos) (.Call (.Name "enumerate" p) [e] [] pos) (iEnumT X.K ta) := by
  refine ⟨fun pins s σ H R I h => ?_⟩
  refine Call_ (ld_blt I hg hm boot_enumerate (PyProof.Rows.callWith_type1 (thn (ha.run pos pins s σ H _ I h) fun us s1 ⟨vs, H1, I1, r1, q1⟩ => ?_) hs rfl))
  obtain ⟨a, xs, ex, q⟩ := q1
  subst ex
  cases r1 with
  | cons r rr =>
    cases rr
    cases r
    have fp : ∀ b ∈ [s1.heap.objs.size + 1, s1.heap.objs.size], FpOk X pins H1 b := fun b hb => by
      have hle : s1.heap.objs.size ≤ b := by
        simp only [List.mem_cons, List.not_mem_nil, or_false] at hb
        rcases hb with rfl | rfl
        · exact Nat.le_succ _
        · exact Nat.le_refl _
      exact I1.fpOk hle (I1.hok.fresh hle)
    rcases q with ⟨hq, q⟩ | ⟨hq, q⟩
    · obtain ⟨its, rv, p', hz⟩ := I1.list hq
      refine call_enumerate_list p'.isList fun h' he hit hsz hk => wpAny_pyIter_enum he ?_
      exact ⟨s1.heap.objs.size + 1, [s1.heap.objs.size + 1, s1.heap.objs.size], _, _, H1, rfl, I1.kept (t' := s1.toks) hk, turn_enum a (s1.heap.objs.size + 1) s1.heap.objs.size, ⟨⟨.none, he⟩, hit, Nat.succ_ne_self _⟩, fp, q⟩
    · obtain ⟨its, rv, p', hz⟩ := I1.tuple hq
      refine call_enumB (begins_tuple a its.toArray) p' fun h' he hit hk => wpAny_pyIter_enum he ?_
      exact ⟨s1.heap.objs.size + 1, [s1.heap.objs.size + 1, s1.heap.objs.size], _, _, H1, rfl, I1.kept (t' := s1.toks) hk, turn_enumT a (s1.heap.objs.size + 1) s1.heap.objs.size, ⟨⟨.none, he⟩, ⟨_, hit, rfl, rfl⟩, Nat.succ_ne_self _⟩, fp, q⟩
section
variable {K : PySem.W.Frag} {H : Hp} {lab : Labs}
theorem iteT_ok {a : Addr} {ds : List D} (h : PRdv K H lab (.tup ds) (.ref a)) : ItOk K (IteT K a) lab H ((List.range ds.length).map fun i => .tup [.int (i : Nat), ds.getD i .non]) := fun lab' H' w st i => by
  obtain ⟨a', vs, e', hs, t⟩ := (h.2 lab' H' w st).tup_inv
  cases e'
  refine ⟨fun x hx => ?_, fun hx => ⟨vs, hs, ?_⟩⟩
  · obtain ⟨j, hj, rfl⟩ := Option.map_eq_some_iff.mp ((List.getElem?_map ..).symm.trans hx)
    have hi : i < ds.length := by simpa using (List.getElem?_eq_some_iff.mp hj).1
    rw [List.getElem?_range hi] at hj
    cases hj
    have hd : ds[i]? = some (ds.getD i .non) := by
      rw [List.getD_eq_getElem?_getD, List.getElem?_eq_getElem hi]; rfl
    obtain ⟨v, hv, r⟩ := t.get hd
    refine ⟨⟨vs, v, hs, hv⟩, ?_⟩
    rintro y H'' ⟨T, x, rfl, hT, rfl, hy⟩
    have := hy vs hs
    rw [hv] at this
    cases this
    exact pair_frz w hT (.int _) r
  · have := Option.map_eq_none_iff.mp ((List.getElem?_map ..).symm.trans hx)
    rw [← t.length]
    simpa using this
end
def gEnumA : List D → Option (List D)
  | [.tup ds] => some ((List.range ds.length).map fun i => .tup [.int (i : Nat), ds.getD i .non])
  | ds => gEnum ds
section
variable {X : Cx} {W : WX}
theorem mi_enumA {e : Expr} {A : Arg} {p pos tpos : Pos} {elts : List Expr} {kk : Nat} (hm : X.mg "enumerate" = none) (ha : MA X W e A) (hg : Gl X "enumerate" := by rfl) (hs : starEach [e] X.env = [(false, eval e X.env)] := by rfl) : MI X W (.Tuple elts kk tpos) (.Call (.Name "enumerate" p) [e] [] pos) (fItP gEnumA [A]) :=
  pi_mono (pi_enumA hg hm (mas_cons ha mas_nil hs) hs) fun σ H R t => itP_ok (r := fun vs H1 R => ∃ a xs, vs = [.ref a] ∧ ((SqL X.K H1 a xs ∧ R (Ite X.K a) H1) ∨ (SqT X.K H1 a xs ∧ R (IteT X.K a) H1))) (fun H lab ds vs is R w f hg q => by
    unfold gEnumA at hg
    split at hg
    · cases hg
      cases f with
      | cons h t =>
        cases t
        obtain ⟨a, vs, rfl, hs, _⟩ := h.1.tup_inv
        exact ⟨a, vs, rfl, .inr ⟨hs, q _ (iteT_ok h)⟩⟩
    · unfold gEnum at hg
      split at hg
      · obtain ⟨es, he, rfl⟩ := Option.map_eq_some_iff.mp hg
        cases f with
        | cons h t =>
          cases t
          obtain ⟨a, vs, rfl, hs, _⟩ := h.1.seqL he
          exact ⟨a, vs, rfl, .inl ⟨hs, q _ (ite_ok h he)⟩⟩
      · cases hg) t
end
end PV
set_option maxHeartbeats 4000000
/-! PV 23: dicts with tuples for keys: a store; sorted -/
namespace PV
open PySem PySem.Spec PyProof.Rows L2
/-! ### sorting a list that is new -/
theorem sort_fresh {prog : Program} {w : World} {A : Around} {E : Value → Shared → Prop} {s : Shared} {β : Type} {us : List Value} {bs : List β} {en : β → PyData} {R : Value → β → Prop} {h0 : Heap} {a : Addr} {n : Nat} {Q : Value → Shared → Prop}
    (ho : s.heap.get? a = some (seqObj "list" us.toArray n)) (k0 : ∀ b o, h0.get? b = some o → b ≠ a ∧ s.heap.get? b = some o) (e : PySem.W.EachIs R us bs) (er : PySem.W.EachIs (fun v b => ∃ as, Reads h0 v (en b) as) us bs)
    (al : PySem.W.AllAlike (bs.map en)) (so : PySem.W.Sortable (bs.map en)) (fit : bs.length ≤ sizeLine) (un : ∀ b, b ∈ bs → A.units + 1 + (en b).depth < cLine)
    (q : ∀ out : List Value, out.length = bs.length → PySem.W.EachIs R out (bs.mergeSort (PySem.W.dataLe false en)) → Q .none { s with heap := sortedHeap s.heap a us (List.toArray out) }) :
    wpAny (model prog w) A (call (.builtin "list.sort") [.ref a]) Q E s := by
  have e2 : PySem.W.EachIs (fun v b => ∃ as, Reads (PySem.W.sortingHeap s.heap a us) v (en b) as) us bs := er.mono fun _ _ ⟨as, r⟩ => ⟨as, PyProof.Rows.Reads.keeps (fun b o g => PySem.W.sortingHeap_old (k0 b o g).1 (k0 b o g).2) r⟩
  refine wpAny_call_entry PyProof.Rows.slot_list_sort ⟨_, ho, rfl⟩ PyProof.Rows.entry_list_sort ?_ (PyProof.Rows.args_list_sort _)
  refine PySem.W.list_sort_vals (κ := PySem.W.dataKind (PySem.W.sortingHeap s.heap a us) (bs.map en)) ho ?_ (by rw [e.length]; exact fit) ⟨.none, rfl, ?_⟩
  · exact PySem.W.SortsAt.data (s := { s with heap := PySem.W.sortingHeap s.heap a us }) (PySem.W.each_map (R := fun v d => ∃ as, Reads (PySem.W.sortingHeap s.heap a us) v d as) en e2) al so (PySem.W.bound_map un)
  · exact q _ (by rw [PySem.W.sortVals_length false rfl]; exact e.length) (PySem.W.sortVals_data false e e2 al)
/-! ### sorted(d) -/
def rSortT (K : PySem.W.Frag) : List V → Hp → VK → Prop := fun vs H Q => ∃ (d : Addr) (kvs : List (List Key × V)) (ps : List PyData), vs = [V.ref d] ∧ Rd H d (.dT kvs) ∧ kvs.length = ps.length ∧ (∀ bs, IsKeys H kvs bs → DpAll K H (bs.map V.ref) ps) ∧ PySem.W.AllAlike ps ∧ PySem.W.Sortable ps ∧ (∀ p ∈ ps, p.depth ≤ 60) ∧ kvs.length ≤ sizeLine ∧
  ∀ p bs, H p = none → IsKeys H kvs bs → Q (.ref p) (upd H p (.lst ((((bs.map V.ref).zip ps).mergeSort (PySem.W.dataLe false Prod.snd)).map Prod.fst)))
theorem keys_len {H : Hp} {kvs : List (List Key × V)} {bs : List Addr} (h : IsKeys H kvs bs) : kvs.length = bs.length := Paired.length h
theorem cr_sortT2 {X : Cx} (hc : X.calm = true) (hu : X.A.units + 65 < cLine) : CallR X (.builtin "sorted") (rSortT X.K) := by
  intro pins s σ H vs us Q I r h
  obtain ⟨d, kvs, ps, rfl, hd, hl, dp, al, so, dep, fit, q⟩ := h
  rw [Vals.ref1 r]
  obtain ⟨z, hs, ks, pr, o, es, ep, ho, hx, hdt, he, hn⟩ := (show ObjOk X.prog X.w H s.heap d (.dT kvs) from hd.ok I.hok)
  have l1 : es.size = ks.length := size_of_entries he
  have l2 : kvs.length = ks.length := Paired.length pr
  have ik := isKeys_of pr
  refine Calls.call_function_entry PyProof.Rows.kind_sorted PyProof.Rows.plain_sorted PyProof.Rows.entry_sorted (PyProof.Rows.args_sorted1 _) ?_
  unfold Builtin.«sorted»
  refine wpAny_bind (m := checkCount "sorted" 1 1 _) (wpAny_pure ?_)
  refine wpAny_bind (PySem.W.kdu_collect (A := X.A.in1) (kdl_raw hs hx hdt) (I.ok.hd hc) ho (by omega) fun h' tk acc kp it => ?_)
  have ea : acc.toList = (ks.map fun x => x.2.1).map Value.ref := by
    have al' : acc.toList.length = ks.length := by rw [Array.length_toList, it.1]; exact l1
    refine List.ext_getElem? fun j => ?_
    rw [List.getElem?_map, List.getElem?_map]
    rcases hj : acc.toList[j]? with _ | v
    · have := List.getElem?_eq_none_iff.mp hj
      rw [List.getElem?_eq_none (by omega)]
      rfl
    · obtain ⟨en, hen, hv⟩ := it.2 j v (by rw [← Array.getElem?_toList]; exact hj)
      have qe := entry_at he j
      rw [hen] at qe
      rcases hb : ks[j]? with _ | b
      · rw [hb] at qe
        exact nomatch (show some en = none from qe)
      · rw [hb] at qe
        have e2 : en = entryOfKey (tupleKind (mixKind X.prog X.w)) b := Option.some.inj qe
        rw [hv, e2]
        rfl
  have I1 : Inv X pins σ H { s with heap := h', toks := tk } := I.kept kp
  have dps := dp _ ik
  have rv : Vals ((ks.map fun x => x.2.1).map V.ref) acc.toList := by rw [ea]; exact vals_refs _
  obtain ⟨as, rd⟩ := Dp.readsAll I1 ps _ acc.toList dps rv
  have zl : ((ks.map fun x => x.2.1).map V.ref).length = ps.length := by rw [List.length_map, List.length_map]; omega
  have fz : acc.toList.length ≤ sizeLine := by rw [ea, List.length_map, List.length_map]; omega
  refine wpAny_bind (wpAny_newList ?_ fz)
  have hoL : (h'.push (seqObj "list" acc.toList.toArray 0)).get? h'.objs.size = some (seqObj "list" acc.toList.toArray 0) := Heap.get?_push_size _ rfl
  show wpAny _ _ _ _ _ { s with heap := h'.push (seqObj "list" acc.toList.toArray 0), toks := tk }
  refine wpAny_bind (wpAny_holding (sort_fresh (s := { s with heap := h'.push (seqObj "list" acc.toList.toArray 0), toks := tk }) (h0 := h') (en := Prod.snd) hoL (fun b o g => ⟨Nat.ne_of_lt (Heap.lt_size g), Heap.get?_push_of_some _ g⟩) (rel_each zl rv) (reads_each zl rd) (by rw [zip_snd zl]; exact al) (by rw [zip_snd zl]; exact so) (by rw [List.length_zip]; omega) (fun b hb => ?_) fun out ol eo => ?_))
  · have hm : b.2 ∈ ps := by rw [← zip_snd zl]; exact List.mem_map.mpr ⟨b, hb, rfl⟩
    have := dep _ hm
    show X.A.units + 1 + 1 + b.2.depth < cLine
    omega
  obtain ⟨e', there⟩ := PyProof.Rows.sortedHeap_at (vs := acc.toList) (out := List.toArray out) hoL
  have fits : (((((ks.map fun x => x.2.1).map V.ref).zip ps).mergeSort (PySem.W.dataLe false Prod.snd)).map Prod.fst).length ≤ sizeLine := by rw [List.length_map, List.length_mergeSort, List.length_zip]; omega
  refine wpAny_pure ⟨_, rfl, .ref h'.objs.size, upd H h'.objs.size (.lst (((((ks.map fun x => x.2.1).map V.ref).zip ps).mergeSort (PySem.W.dataLe false Prod.snd)).map Prod.fst)), I1.laid (t' := tk) (fun b u g => ?_) (Nat.le_refl _) (show ObjOk X.prog X.w _ _ _ (.lst (((((ks.map fun x => x.2.1).map V.ref).zip ps).mergeSort (PySem.W.dataLe false Prod.snd)).map Prod.fst)) from ⟨fits, out, e', each_rel eo, there⟩), rfl, q _ _ (I1.hok.fresh (Nat.le_refl _)) ik⟩
  have hb : b < h'.objs.size := Heap.lt_size g
  rw [PyProof.Rows.sortedHeap_old (Nat.ne_of_lt hb) (by rw [Heap.size_push]; exact Nat.lt_succ_of_lt hb)]
  exact Heap.get?_push_of_some _ g
/-! ### the keys as values -/
def keysD (kvs : List (List Key × V)) : List D := kvs.map fun p => D.tup (p.1.map keyD)
section
variable {K : PySem.W.Frag} {H : Hp} {lab : Labs}
theorem keyD_frz (k : Key) : Frz K H lab (keyD k) (kV k) := by
  cases k with
  | inl i => exact .int i
  | inr s => exact .str s
theorem keyDs_frz : ∀ ks : List Key, FrzL K H lab (ks.map keyD) (ks.map kV)
  | [] => .nil
  | k :: ks => .cons (keyD_frz k) (keyDs_frz ks)
theorem keys_frz {kvs : List (List Key × V)} {bs : List Addr} (h : IsKeys H kvs bs) : FrzL K H lab (keysD kvs) (bs.map V.ref) := by
  unfold IsKeys at h
  induction h with
  | nil => exact .nil
  | cons g t ih => exact .cons (.tup g (keyDs_frz _)) ih
end
theorem zipfst {α β : Type} : ∀ {xs : List α} {ys : List β}, xs.length = ys.length → (xs.zip ys).map Prod.fst = xs
  | [], [], _ => rfl
  | x :: xs, y :: ys, h => by rw [List.zip_cons_cons, List.map_cons, zipfst (by simpa using h)]
  | [], _ :: _, h => by simp at h
  | _ :: _, [], h => by simp at h
open Classical in
noncomputable def gSortT : List D → Option D
  | [.dic true kvs] => if SrtD (kvs.map Prod.fst) then some (.lst ((kvs.map Prod.fst).mergeSort leD)) else none
  | _ => none
theorem Rdv.dicT {K : PySem.W.Frag} {H : Hp} {lab : Labs} {pr : List (D × D)} {v : V} (h : Rdv K H lab (.dic true pr) v) : ∃ a kvs, v = .ref a ∧ Rd H a (.dT kvs) ∧ pr.map Prod.fst = keysD kvs := by
  have go : ∀ {a : Addr} {o : HO} {ds : List D} {vs : List V}, H a = some o → Sh o (.dic true pr) ds vs → FrzL K H lab ds vs → ∃ kvs, Rd H a (.dT kvs) ∧ pr.map Prod.fst = keysD kvs := by
    intro a o ds vs ha sh t
    generalize hd : D.dic true pr = d at sh
    cases sh with
    | dT kvs ds =>
      cases hd
      have := t.length
      rw [List.length_map] at this
      exact ⟨kvs, .inl ha, zipfst (by rw [List.length_map]; omega)⟩
    | dK kvs ds => cases hd
    | lst => cases hd
    | set => cases hd
  rcases h with h | ⟨l, a, o, ds, vs, rfl, ha, _, sh, t⟩
  · cases h with
    | obj ha _ sh t =>
      obtain ⟨kvs, h1, h2⟩ := go ha sh t
      exact ⟨_, kvs, rfl, h1, h2⟩
  · obtain ⟨kvs, h1, h2⟩ := go ha sh t
    exact ⟨_, kvs, rfl, h1, h2⟩
theorem sortT_ok {K : PySem.W.Frag} : OpOk K gSortT true (rSortT K) := fun H lab k ds vs d Q w fr rd hg q => by
  unfold gSortT at hg
  split at hg
  · rename_i pr
    split at hg
    · rename_i hc
      cases hg
      obtain ⟨v, rfl, r⟩ := rd.one
      obtain ⟨a, kvs, rfl, hd, ek⟩ := r.dicT
      rw [ek] at hc q
      obtain ⟨⟨⟨ps, hp⟩, al, so, dep⟩, hz⟩ := hc
      have ep := pys_map hp
      have lk : (keysD kvs).length = kvs.length := by unfold keysD; rw [List.length_map]
      refine ⟨a, kvs, (keysD kvs).map pyd, rfl, hd, by rw [List.length_map, lk], fun bs ik => ?_, al, so, fun p hp => ?_, by rw [sizeLine_eq]; omega, fun p bs hn ik => ?_⟩
      · have t := (keys_frz (K := K) (lab := lab) ik).dps hp
        rw [ep] at t
        exact t
      · obtain ⟨d, hd, rfl⟩ := List.mem_map.mp hp
        exact dep d hd
      · exact q _ _ (res_obj w fr hn (.lst _ _) (srt_frz (keys_frz ik)))
    · cases hg
  · cases hg
/-! ### d[k] = v -/
def kOf : D → Option Key
  | .int i => some (.inl i)
  | .str s => some (.inr s)
  | _ => none
def kOfs : List D → Option (List Key)
  | [] => some []
  | x :: r => match kOf x, kOfs r with
    | some k, some ks => some (k :: ks)
    | _, _ => none
def tkOf : D → Option (List Key)
  | .tup xs => kOfs xs
  | _ => none
theorem kOf_key (k : Key) : kOf (keyD k) = some k := by cases k <;> rfl
theorem kOf_inv {x : D} {k : Key} (h : kOf x = some k) : x = keyD k := by
  cases x <;> simp [kOf] at h <;> subst h <;> rfl
theorem kOfs_key : ∀ k : List Key, kOfs (k.map keyD) = some k
  | [] => rfl
  | a :: r => by rw [List.map_cons]; simp only [kOfs, kOf_key, kOfs_key r]
theorem kOfs_inv : ∀ {xs : List D} {k : List Key}, kOfs xs = some k → xs = k.map keyD
  | [], k, h => by simp [kOfs] at h; subst h; rfl
  | x :: xs, k, h => by
    simp only [kOfs] at h
    rcases h1 : kOf x with _ | a
    · rw [h1] at h; cases h
    · rcases h2 : kOfs xs with _ | r
      · rw [h1, h2] at h; cases h
      · rw [h1, h2] at h
        cases h
        rw [List.map_cons, kOf_inv h1, kOfs_inv h2]
def putD (pr : List (D × D)) (is : D → Bool) (k d : D) : List (D × D) :=
  if pr.any (fun p => is p.1) = true then pr.map (fun p => if is p.1 = true then (p.1, d) else p) else pr ++ [(k, d)]
section
variable {κ : Type} [DecidableEq κ] {f : κ → D} {is : D → Bool} {k : κ} {K : PySem.W.Frag} {H : Hp} {lab : Labs} {d : D} {v : V}
theorem put_any (h : ∀ q, is (f q) = decide (q = k)) : ∀ {kvs : List (κ × V)} {ds : List D}, kvs.length = ds.length → ((kvs.map fun p => f p.1).zip ds).any (fun p => is p.1) = kvs.any fun p => decide (p.1 = k)
  | [], [], _ => rfl
  | p :: kvs, x :: ds, l => by
    rw [List.map_cons, List.zip_cons_cons, List.any_cons, List.any_cons, put_any h (by simpa using l), h]
  | [], _ :: _, l => by simp at l
  | _ :: _, [], l => by simp at l
theorem put_map (h : ∀ q, is (f q) = decide (q = k)) (fd : Frz K H lab d v) : ∀ {kvs : List (κ × V)} {ds : List D}, FrzL K H lab ds (kvs.map (·.2)) → ∃ ds', ((kvs.map fun p => f p.1).zip ds).map (fun p => if is p.1 = true then (p.1, d) else p) = ((kvs.map fun p => if p.1 = k then (p.1, v) else p).map fun p => f p.1).zip ds' ∧
    FrzL K H lab ds' ((kvs.map fun p => if p.1 = k then (p.1, v) else p).map (·.2))
  | [], ds, t => by
    cases t
    exact ⟨[], rfl, .nil⟩
  | p :: kvs, ds, t => by
    rw [List.map_cons] at t
    cases t with
    | cons a t =>
      rename_i x ds
      obtain ⟨ds', e, t'⟩ := put_map h fd t
      by_cases c : p.1 = k
      · refine ⟨d :: ds', ?_, ?_⟩
        · simp only [List.map_cons, List.zip_cons_cons, e, h, c, decide_true, if_true]
        · simp only [List.map_cons, c, if_true]
          exact .cons fd t'
      · refine ⟨x :: ds', ?_, ?_⟩
        · simp only [List.map_cons, List.zip_cons_cons, e, h, c, decide_false, if_false]
          simp
        · simp only [List.map_cons, c, if_false]
          exact .cons a t'
theorem put_ok (h : ∀ q, is (f q) = decide (q = k)) (fd : Frz K H lab d v) {kvs : List (κ × V)} {ds : List D} (t : FrzL K H lab ds (kvs.map (·.2))) : ∃ ds', putD ((kvs.map fun p => f p.1).zip ds) is (f k) d = ((putK kvs k v).map fun p => f p.1).zip ds' ∧ FrzL K H lab ds' ((putK kvs k v).map (·.2)) := by
  have hl := t.length
  rw [List.length_map] at hl
  unfold putD putK
  rw [put_any h hl.symm]
  by_cases c : (kvs.any fun p => decide (p.1 = k)) = true
  · rw [if_pos c, if_pos c]
    exact put_map h fd t
  · rw [if_neg c, if_neg c]
    refine ⟨ds ++ [d], ?_, ?_⟩
    · rw [List.map_append, List.zip_append (by rw [List.length_map]; omega)]
      rfl
    · rw [List.map_append]
      exact t.append (.cons fd .nil)
end
def gPutD : D → D → D → Option D
  | .dic true pr, .tup ks, d => (kOfs ks).bind fun k => if pr.length < 16000000 then some (.dic true (putD pr (fun x => decide (tkOf x = some k)) (.tup ks) d)) else none
  | .dic false pr, x, d => (kOf x).bind fun k => if pr.length < 16000000 then some (.dic false (putD pr (fun x => decide (kOf x = some k)) x d)) else none
  | _, _, _ => none
def rPutD : V → V → V → Hp → (Hp → Prop) → Prop := fun o k v H Q => ∃ a H', o = .ref a ∧ DPut H a k v H' ∧ Q H'
theorem set_putD {X : Cx} (hu : X.A.units + 65 < cLine) : PSet X rPutD := by
  intro pins s σ H o i v ov iv u Q I ro ri rv h
  obtain ⟨a, H', rfl, g, q⟩ := h
  cases ro
  exact d_setItem (by omega) I g ri rv fun s' I' => ⟨H', I', q⟩
theorem keys_at {K : PySem.W.Frag} {H : Hp} {lab : Labs} : ∀ {k : List Key} {vs : List V}, FrzL K H lab (k.map keyD) vs → vs = k.map kV
  | [], vs, t => by cases t; rfl
  | x :: k, vs, t => by
    rw [List.map_cons] at t
    cases t with
    | cons a t =>
      rw [List.map_cons, ← keys_at t]
      congr 1
      cases x with
      | inl i => exact a.int_inv
      | inr z => exact a.str_inv
theorem putD_ok {K : PySem.W.Frag} : SetOk K gPutD rPutD := fun H lab a o c cs ws kd kv d v c' Q w ha sh t rk fd hg q => by
  cases sh with
  | lst => simp [gPutD] at hg
  | set => simp [gPutD] at hg
  | dT kvs ds =>
    cases kd with
    | tup ks =>
      simp only [gPutD] at hg
      obtain ⟨k, hk, hg⟩ := Option.bind_eq_some_iff.mp hg
      split at hg
      · rename_i hc
        cases hg
        obtain ⟨b, vs, rfl, hb, tb⟩ := rk.tup_at
        have ek := kOfs_inv hk
        subst ek
        have ev := keys_at tb
        subst ev
        obtain ⟨ds', e, t'⟩ := put_ok (f := fun k : List Key => D.tup (k.map keyD)) (is := fun x => decide (tkOf x = some k)) (k := k) (fun q => by simp only [tkOf, kOfs_key, Option.some.injEq]) fd t
        rw [e] at q
        refine ⟨a, _, rfl, .t ha hb ?_, q _ ds' _ (.dT _ _) t'⟩
        have hl := t.length
        rw [List.length_zip, List.length_map] at hc
        rw [List.length_map] at hl
        rw [sizeLine_eq]
        omega
      · cases hg
    | _ => simp [gPutD] at hg
  | dK kvs ds =>
    simp only [gPutD] at hg
    obtain ⟨k, hk, hg⟩ := Option.bind_eq_some_iff.mp hg
    split at hg
    · rename_i hc
      cases hg
      have ek := kOf_inv hk
      subst ek
      have ev : kv = kV k := by
        cases k with
        | inl i => exact rk.int_inv
        | inr z => exact rk.str_inv
      subst ev
      obtain ⟨ds', e, t'⟩ := put_ok (f := keyD) (is := fun x => decide (kOf x = some k)) (k := k) (fun q => by simp only [kOf_key, Option.some.injEq]) fd t
      rw [e] at q
      refine ⟨a, _, rfl, .k ha ?_, q _ ds' _ (.dK _ _) t'⟩
      have hl := t.length
      rw [List.length_zip, List.length_map] at hc
      rw [List.length_map] at hl
      rw [sizeLine_eq]
      omega
    · cases hg
theorem putD_mut {c k d c' : D} (h : gPutD c k d = some c') : c.mut = true := by
  cases c <;> first | rfl | (simp [gPutD] at h)
section
variable {X : Cx} {W : WX} {rd : Bool} {A : Nat → Bool}
theorem ms_putD {o ix e : Expr} {i : Nat} {n : Bool} {f : AE} {B : Arg} {p1 pos : Pos} (hu : X.A.units + 65 < cLine) (he : ME X W e n f) (ho : PE X o (tVar i)) (hi : MA X W ix B)
    (ha : ∀ v, assign (.Subscript o ix p1) X.env v = (do let ov ← holding [v] (eval o X.env); let iv ← holding [v, ov] (eval ix X.env); standAt p1; holding [v, ov, iv] (setItem ov iv v); release [v, ov, iv] []) := by intro _; rfl)
    (h1 : swapsWithSole [.Subscript o ix p1] e pos.line X.env = pure false := by rfl) (h2 : swappedStores [.Subscript o ix p1] e X.env = pure none := by rfl) (h3 : (assignEach [.Subscript o ix p1] X.env).map (·.2) = [assign (.Subscript o ix p1) X.env] := by rfl) :
    MS X W rd A (.Assign [.Subscript o ix p1] e pos) (fStore i gPutD f B) := ms_store (fun c k d c' h => putD_mut h) putD_ok he ho hi (set_putD hu) ha h1 h2 h3
end
end PV
/-! PL 1: what a def computes, asked forwards -/
namespace PV
open PySem PySem.Spec PyProof.Rows L2
/-- a mark: what it names is not simplified where it stands -/
def Kp {α : Sort _} (_ : α) : Type := Unit
/-- r ends well, and so that Q -/
def wp {S A : Type} (r : R S A) (Q : A → S → Prop) (_t : Kp Q := ()) : Prop := match r with
  | .ok a s => Q a s
  | _ => False
theorem wp_ok {S A : Type} {a : A} {s : S} {Q : A → S → Prop} : wp (.ok a s) Q = Q a s := (rfl)
theorem wp_no {S A : Type} {Q : A → S → Prop} : wp (.no) Q = False := (rfl)
theorem wp_ex {S A : Type} {x : D} {s : S} {Q : A → S → Prop} : wp (.ex x s) Q = False := (rfl)
theorem wp_iff {S A : Type} {r : R S A} {Q : A → S → Prop} : wp r Q ↔ ∃ a s, r = .ok a s ∧ Q a s := by
  cases r with
  | ok a s => exact ⟨fun h => ⟨a, s, rfl, h⟩, fun ⟨_, _, e, h⟩ => by cases e; exact h⟩
  | ex x s => exact ⟨fun h => h.elim, fun ⟨_, _, e, _⟩ => by cases e⟩
  | no => exact ⟨fun h => h.elim, fun ⟨_, _, e, _⟩ => by cases e⟩
theorem wp_mono {S A : Type} {r : R S A} {Q Q' : A → S → Prop} (h : wp r Q) (m : ∀ a s, Q a s → Q' a s) : wp r Q' := by
  obtain ⟨a, s, rfl, q⟩ := wp_iff.mp h
  exact m _ _ q
theorem wp_of {S A : Type} {r : R S A} {a : A} {s : S} (h : wp r fun a' s' => a' = a ∧ s' = s) : r = .ok a s := by
  obtain ⟨_, _, rfl, rfl, rfl⟩ := wp_iff.mp h
  rfl
/-- a choice; both sides are kept unread until the test is known -/
def br (b : Bool) (A B : Unit → Prop) (_a : Kp A := ()) (_b : Kp B := ()) : Prop := match b with
  | true => A ()
  | false => B ()
theorem br_t {A B : Unit → Prop} : br true A B = A () := (rfl)
theorem br_f {A B : Unit → Prop} : br false A B = B () := (rfl)
theorem br_not {b : Bool} {A B : Unit → Prop} : br (!b) A B = br b B A := by cases b <;> rfl
theorem br_i {b : Bool} {A B : Unit → Prop} (h1 : b = true → A ()) (h2 : b = false → B ()) : br b A B := by
  cases b
  · exact h2 rfl
  · exact h1 rfl
/-- a slot is looked at -/
def gv0 : AS → Nat → (D → Nat → Prop) → Prop
  | [], _, _ => False
  | none :: _, 0, _ => False
  | some (d, n) :: _, 0, K => K d n
  | _ :: r, i + 1, K => gv0 r i K
def gv (s : AS) (i : Nat) (K : D → Nat → Prop) (_t : Kp K := ()) : Prop := gv0 s i K
theorem gv_z {d : D} {n : Nat} {r : AS} {K : D → Nat → Prop} : gv (some (d, n) :: r) 0 K = K d n := (rfl)
theorem gv_s {x : Option (D × Nat)} {r : AS} {i : Nat} {K : D → Nat → Prop} : gv (x :: r) (i + 1) K = gv r i K := by
  cases x <;> rfl
theorem gv_eq {s : AS} {i : Nat} {K : D → Nat → Prop} : gv s i K = match s[i]? with
  | some (some (d, n)) => K d n
  | _ => False := by
  induction s generalizing i with
  | nil => rfl
  | cons x r ih =>
    cases i with
    | zero => cases x <;> rfl
    | succ i => rw [gv_s, ih]; rfl
/-- a slot is set -/
def sv (s : AS) (i : Nat) (x : Option (D × Nat)) : AS := s.set i x
theorem sv_z {y x : Option (D × Nat)} {r : AS} : sv (y :: r) 0 x = x :: r := (rfl)
theorem sv_s {y x : Option (D × Nat)} {r : AS} {i : Nat} : sv (y :: r) (i + 1) x = y :: sv r i x := (rfl)
/-- the kind with which a value is kept -/
theorem nk_int {i : Int} {n : Bool} : normK (.int i) n = 0 := (rfl)
theorem nk_bl {i : Bool} {n : Bool} : normK (.bl i) n = 0 := (rfl)
theorem nk_str {i : Str} {n : Bool} : normK (.str i) n = 0 := (rfl)
theorem nk_tup {i : List D} {n : Bool} : normK (.tup i) n = 0 := (rfl)
theorem nk_ro {i : List D} {n : Bool} : normK (.ro i) n = 0 := (rfl)
theorem nk_non {n : Bool} : normK .non n = 0 := (rfl)
theorem nk_lt {i : List D} : normK (.lst i) true = 1 := (rfl)
theorem nk_lf {i : List D} : normK (.lst i) false = 0 := (rfl)
theorem nk_f {d : D} : normK d false = 0 := by unfold normK; split <;> rfl
/-- what stands on two kinds -/
def kk (n : Nat) (A B : Unit → Prop) (_a : Kp A := ()) (_b : Kp B := ()) : Prop := match n with
  | 0 => A ()
  | 1 => B ()
  | _ => False
theorem kk_0 {A B : Unit → Prop} : kk 0 A B = A () := (rfl)
theorem kk_1 {A B : Unit → Prop} : kk 1 A B = B () := (rfl)
/-- a value that may be there -/
def wpo {A : Type} (o : Option A) (K : A → Prop) (_t : Kp K := ()) : Prop := match o with
  | some d => K d
  | none => False
theorem wpo_some {A : Type} {d : A} {K : A → Prop} : wpo (some d) K = K d := (rfl)
theorem wpo_none {A : Type} {K : A → Prop} : wpo (none : Option A) K = False := (rfl)
theorem wpo_map {A B : Type} {f : A → B} {o : Option A} {K : B → Prop} : wpo (o.map f) K = wpo o fun x => K (f x) := by cases o <;> rfl
theorem wpo_bind {A B : Type} {f : A → Option B} {o : Option A} {K : B → Prop} : wpo (o.bind f) K = wpo o fun x => wpo (f x) K := by cases o <;> rfl
theorem wpo_ite {A : Type} {c : Prop} [Decidable c] {d : A} {K : A → Prop} : wpo (if c then some d else none) K = (c ∧ K d) := by
  by_cases h : c
  · rw [if_pos h]; exact propext ⟨fun k => ⟨h, k⟩, fun k => k.2⟩
  · rw [if_neg h]; exact propext ⟨fun k => k.elim, fun k => absurd k.1 h⟩
/-! ### expressions -/
theorem w_c {d : D} {s : AS} {Q : D → AS → Prop} : wp (fC d s) Q = Q d s := (rfl)
theorem w_var {i : Nat} {s : AS} {Q : D → AS → Prop} : wp (fVar i s) Q = gv s i fun d n => kk n (fun _ => Q d s) (fun _ => Q d (sv s i (some (d, 0)))) := by
  rw [gv_eq]
  unfold fVar
  rcases s[i]? with _ | _ | ⟨d, _ | _ | n⟩ <;> rfl
theorem w_mv {i : Nat} {s : AS} {Q : D → AS → Prop} : wp (fMv i s) Q = gv s i fun d n => kk n (fun _ => br d.mut (fun _ => False) (fun _ => Q d s)) (fun _ => Q d (sv s i none)) := by
  rw [gv_eq]
  unfold fMv
  rcases s[i]? with _ | _ | ⟨d, _ | _ | n⟩ <;> try rfl
  simp only
  cases d.mut <;> rfl
/-- operands -/
def wa (args : List Arg) (s : AS) (K : List (Nat ⊕ D) → AS → Prop) (_t : Kp K := ()) : Prop := wp (evArgs args s) K
theorem wa_nil {s : AS} {K : List (Nat ⊕ D) → AS → Prop} : wa [] s K = K [] s := (rfl)
theorem wa_vw {i : Nat} {r : List Arg} {s : AS} {K : List (Nat ⊕ D) → AS → Prop} : wa (.vw i :: r) s K = gv s i fun _ _ => wa r s fun xs => K (.inl i :: xs) := by
  rw [gv_eq]
  unfold wa
  simp only [evArgs]
  rcases s[i]? with _ | _ | ⟨d, n⟩ <;> try rfl
  show wp (match evArgs r s with | .ok xs s' => _ | .ex x s' => _ | .no => _) K = _
  cases evArgs r s <;> rfl
theorem wa_ev {n : Bool} {f : AE} {r : List Arg} {s : AS} {K : List (Nat ⊕ D) → AS → Prop} : wa (.ev n f :: r) s K = wp (f s) fun d s1 => wa r s1 fun xs => K (.inr d :: xs) := by
  unfold wa
  simp only [evArgs]
  cases f s with
  | ok d s1 =>
    show wp (match evArgs r s1 with | .ok xs s' => _ | .ex x s' => _ | .no => _) K = wp (evArgs r s1) _
    cases evArgs r s1 <;> rfl
  | ex x s1 => rfl
  | no => rfl
/-- what operands hold -/
def wf0 (s : AS) : List (Nat ⊕ D) → (List D → Prop) → Prop
  | [], K => K []
  | .inl i :: r, K => gv s i fun d _ => wf0 s r fun ds => K (d :: ds)
  | .inr d :: r, K => wf0 s r fun ds => K (d :: ds)
def wf (s : AS) (xs : List (Nat ⊕ D)) (K : List D → Prop) (_t : Kp K := ()) : Prop := wf0 s xs K
theorem wf_nil {s : AS} {K : List D → Prop} : wf s [] K = K [] := (rfl)
theorem wf_l {s : AS} {i : Nat} {r : List (Nat ⊕ D)} {K : List D → Prop} : wf s (.inl i :: r) K = gv s i fun d _ => wf s r fun ds => K (d :: ds) := (rfl)
theorem wf_r {s : AS} {d : D} {r : List (Nat ⊕ D)} {K : List D → Prop} : wf s (.inr d :: r) K = wf s r fun ds => K (d :: ds) := (rfl)
theorem wf_eq {s : AS} {xs : List (Nat ⊕ D)} {K : List D → Prop} : wf s xs K = wpo (fetchAll s xs) K := by
  induction xs generalizing K with
  | nil => rfl
  | cons x r ih =>
    cases x with
    | inl i =>
      rw [wf_l, gv_eq]
      simp only [fetchAll, fetch]
      rcases s[i]? with _ | _ | ⟨d, n⟩ <;> try rfl
      show wf s r _ = wpo (match some d, fetchAll s r with | some d, some ds => some (d :: ds) | _, _ => none) K
      rw [ih]
      cases fetchAll s r <;> rfl
    | inr d =>
      rw [wf_r, ih]
      simp only [fetchAll, fetch]
      cases fetchAll s r <;> rfl
theorem w_ap {g : List D → Option D} {args : List Arg} {s : AS} {Q : D → AS → Prop} : wp (fAp g args s) Q = wa args s fun xs s1 => wf s1 xs fun ds => wpo (g ds) fun d => Q d s1 := by
  unfold fAp wa
  cases evArgs args s with
  | ok xs s1 =>
    show wp (match fetchAll s1 xs with | some ds => _ | none => _) Q = wf s1 xs _
    rw [wf_eq]
    cases fetchAll s1 xs with
    | none => rfl
    | some ds =>
      show wp (match g ds with | some d => _ | none => _) Q = wpo (g ds) _
      cases g ds <;> rfl
  | ex x s1 => rfl
  | no => rfl
/-- operands that are kept: none is a name's -/
def wi0 : List (Nat ⊕ D) → (List D → Prop) → Prop
  | [], K => K []
  | .inl _ :: _, _ => False
  | .inr d :: r, K => wi0 r fun ds => K (d :: ds)
def wi (xs : List (Nat ⊕ D)) (K : List D → Prop) (_t : Kp K := ()) : Prop := wi0 xs K
theorem wi_nil {K : List D → Prop} : wi [] K = K [] := (rfl)
theorem wi_r {d : D} {r : List (Nat ⊕ D)} {K : List D → Prop} : wi (.inr d :: r) K = wi r fun ds => K (d :: ds) := (rfl)
theorem wi_eq {xs : List (Nat ⊕ D)} {K : List D → Prop} : wi xs K = wpo (inrAll xs) K := by
  induction xs generalizing K with
  | nil => rfl
  | cons x r ih =>
    cases x with
    | inl i => rfl
    | inr d =>
      rw [wi_r, ih]
      simp only [inrAll]
      cases inrAll r <;> rfl
theorem w_apF {g : List D → Option D} {args : List Arg} {s : AS} {Q : D → AS → Prop} : wp (fApF g args s) Q = wa args s fun xs s1 => wi xs fun ds => wpo (g ds) fun d => Q d s1 := by
  unfold fApF wa
  cases evArgs args s with
  | ok xs s1 =>
    show wp (match inrAll xs with | some ds => _ | none => _) Q = wi xs _
    rw [wi_eq]
    cases inrAll xs with
    | none => rfl
    | some ds =>
      show wp (match g ds with | some d => _ | none => _) Q = wpo (g ds) _
      cases g ds <;> rfl
  | ex x s1 => rfl
  | no => rfl
/-- a bool that is looked at -/
def wb (d : D) (K : Bool → Prop) (_t : Kp K := ()) : Prop := match d with
  | .bl b => K b
  | _ => False
theorem wb_b {b : Bool} {K : Bool → Prop} : wb (.bl b) K = K b := (rfl)
theorem w_tb {f : AE} {s : AS} {Q : Bool → AS → Prop} : wp (fTb f s) Q = wp (f s) fun d s1 => wb d fun b => Q b s1 := by
  unfold fTb
  cases f s with
  | ok d s1 => cases d <;> rfl
  | ex x s1 => rfl
  | no => rfl
theorem w_tru {a : Arg} {s : AS} {Q : Bool → AS → Prop} : wp (fTru a s) Q = wa [a] s fun xs s1 => wf s1 xs fun ds => wpo (match ds with | [d] => d.truth | _ => none) fun b => Q b s1 := by
  unfold fTru wa
  cases evArgs [a] s with
  | ok xs s1 =>
    simp only [wf_eq, wp_ok]
    cases fetchAll s1 xs with
    | none => rfl
    | some ds =>
      rcases ds with _ | ⟨d, _ | ⟨e, r⟩⟩ <;> try rfl
      show wp (match d.truth with | some b => _ | none => _) Q = _
      show _ = wpo d.truth _
      cases d.truth <;> rfl
  | ex x s1 => rfl
  | no => rfl
theorem tr1 {d : D} : (match [d] with | [d] => d.truth | _ => none) = d.truth := (rfl)
theorem tr_bl {b : Bool} : (D.bl b).truth = some b := (rfl)
theorem tr_int {i : Int} : (D.int i).truth = some (i != 0) := (rfl)
theorem tr_non : (D.non).truth = some false := (rfl)
theorem tr_lst {xs : List D} : (D.lst xs).truth = some (!xs.isEmpty) := (rfl)
theorem tr_tup {xs : List D} : (D.tup xs).truth = some (!xs.isEmpty) := (rfl)
theorem w_not {f : AT} {s : AS} {Q : Bool → AS → Prop} : wp (fNotT f s) Q = wp (f s) fun b s1 => Q (!b) s1 := by
  unfold fNotT
  cases f s <;> rfl
theorem w_and {f g : AT} {s : AS} {Q : Bool → AS → Prop} : wp (fAndT f g s) Q = wp (f s) fun b s1 => br b (fun _ => wp (g s1) Q) (fun _ => Q false s1) := by
  unfold fAndT
  rcases f s with ⟨_ | _, s1⟩ | ⟨x, s1⟩ | _ <;> rfl
theorem w_or {f g : AT} {s : AS} {Q : Bool → AS → Prop} : wp (fOrT f g s) Q = wp (f s) fun b s1 => br b (fun _ => Q true s1) (fun _ => wp (g s1) Q) := by
  unfold fOrT
  rcases f s with ⟨_ | _, s1⟩ | ⟨x, s1⟩ | _ <;> rfl
theorem w_yes {s : AS} {Q : Bool → AS → Prop} : wp (fYes s) Q = Q true s := (rfl)
theorem w_ife {c : AT} {f g : AE} {s : AS} {Q : D → AS → Prop} : wp (fIfE c f g s) Q = wp (c s) fun b s1 => br b (fun _ => wp (f s1) Q) (fun _ => wp (g s1) Q) := by
  unfold fIfE
  rcases c s with ⟨_ | _, s1⟩ | ⟨x, s1⟩ | _ <;> rfl
theorem w_bl {c : AT} {s : AS} {Q : D → AS → Prop} : wp (fBl c s) Q = wp (c s) fun b s1 => Q (.bl b) s1 := by
  unfold fBl
  cases c s <;> rfl
theorem w_andV {f g : AE} {s : AS} {Q : D → AS → Prop} : wp (fAndV f g s) Q = wp (f s) fun d s1 => wb d fun b => br b (fun _ => wp (g s1) Q) (fun _ => Q (.bl false) s1) := by
  unfold fAndV
  cases f s with
  | ok d s1 => cases d <;> try rfl
               rename_i b
               cases b <;> rfl
  | ex x s1 => rfl
  | no => rfl
theorem w_orV {f g : AE} {s : AS} {Q : D → AS → Prop} : wp (fOrV f g s) Q = wp (f s) fun d s1 => wb d fun b => br b (fun _ => Q (.bl true) s1) (fun _ => wp (g s1) Q) := by
  unfold fOrV
  cases f s with
  | ok d s1 => cases d <;> try rfl
               rename_i b
               cases b <;> rfl
  | ex x s1 => rfl
  | no => rfl
theorem w_notV {f : AE} {s : AS} {Q : D → AS → Prop} : wp (fNotV f s) Q = wp (f s) fun d s1 => wb d fun b => Q (.bl (!b)) s1 := by
  unfold fNotV
  cases f s with
  | ok d s1 => cases d <;> rfl
  | ex x s1 => rfl
  | no => rfl
/-- an int that is looked at -/
def wn (d : D) (K : Int → Prop) (_t : Kp K := ()) : Prop := match d with
  | .int b => K b
  | _ => False
theorem wn_i {b : Int} {K : Int → Prop} : wn (.int b) K = K b := (rfl)
theorem w_int {f : AE} {s : AS} {Q : D → AS → Prop} : wp (fInt f s) Q = wp (f s) fun d s1 => wn d fun i => Q (.int i) s1 := by
  unfold fInt
  cases f s with
  | ok d s1 => cases d <;> rfl
  | ex x s1 => rfl
  | no => rfl
/-- x op y op z -/
theorem w_chain {g1 g2 : List D → Option D} {A B C : Arg} {s : AS} {Q : D → AS → Prop} : wp (fChain g1 g2 A B C s) Q = wa [A, B] s fun xs s1 => wf s1 xs fun ds => wpo (g1 ds) fun d => wb d fun b => br b (fun _ => wa [C] s1 fun zs s2 => wf s2 (xs.drop 1 ++ zs) fun es => wpo (g2 es) fun e => Q e s2) (fun _ => Q (.bl false) s1) := by
  unfold fChain wa
  cases h : evArgs [A, B] s with
  | ok xs s1 =>
    have := evArgs_len h
    rcases xs with _ | ⟨x, _ | ⟨y, _ | ⟨z, r⟩⟩⟩ <;> try simp at this
    simp only [wf_eq, wp_ok]
    cases fetchAll s1 [x, y] with
    | none => rfl
    | some ds =>
      simp only [wpo_some]
      cases g1 ds with
      | none => rfl
      | some d =>
        cases d <;> try rfl
        rename_i b
        cases b
        · rfl
        · simp only [wpo_some, wb_b, br_t]
          cases h2 : evArgs [C] s1 with
          | ok zs s2 =>
            have := evArgs_len h2
            rcases zs with _ | ⟨z, _ | ⟨z', r⟩⟩ <;> try simp at this
            simp only [wp_ok, List.drop_succ_cons, List.drop_zero, List.cons_append, List.nil_append]
            rw [wf_eq]
            cases fetchAll s2 [y, z] with
            | none => rfl
            | some es =>
              simp only [wpo_some]
              cases g2 es <;> rfl
          | ex x s1 => rfl
          | no => rfl
  | ex x s1 => rfl
  | no => rfl
/-! ### calls -/
/-- what a name hands over -/
def hk (d : D) (n : Nat) (K : Nat → Prop) (_t : Kp K := ()) : Prop := K (if n = 1 then (if d.mut then 2 else 0) else n)
theorem hk_int {i : Int} {K : Nat → Prop} : hk (.int i) 0 K = K 0 := (rfl)
theorem hk_0 {d : D} {K : Nat → Prop} : hk d 0 K = K 0 := (rfl)
theorem hk_2 {d : D} {K : Nat → Prop} : hk d 2 K = K 2 := (rfl)
theorem hk_l {d : List D} {K : Nat → Prop} : hk (.lst d) 1 K = K 2 := (rfl)
def hd0 (s : AS) : List (Nat ⊕ D) → (List (D × Nat) → Prop) → Prop
  | [], K => K []
  | .inl i :: r, K => gv s i fun d n => hk d n fun n' => hd0 s r fun as => K ((d, n') :: as)
  | .inr d :: r, K => hd0 s r fun as => K ((d, 0) :: as)
def hd (s : AS) (xs : List (Nat ⊕ D)) (K : List (D × Nat) → Prop) (_t : Kp K := ()) : Prop := hd0 s xs K
theorem hd_nil {s : AS} {K : List (D × Nat) → Prop} : hd s [] K = K [] := (rfl)
theorem hd_l {s : AS} {i : Nat} {r : List (Nat ⊕ D)} {K : List (D × Nat) → Prop} : hd s (.inl i :: r) K = gv s i fun d n => hk d n fun n' => hd s r fun as => K ((d, n') :: as) := (rfl)
theorem hd_r {s : AS} {d : D} {r : List (Nat ⊕ D)} {K : List (D × Nat) → Prop} : hd s (.inr d :: r) K = hd s r fun as => K ((d, 0) :: as) := (rfl)
theorem hd_eq {s : AS} {xs : List (Nat ⊕ D)} {K : List (D × Nat) → Prop} {j : Nat} : hd s xs K = wpo (mkArgs none none s j xs) K := by
  induction xs generalizing K j with
  | nil => rfl
  | cons x r ih =>
    cases x with
    | inl i =>
      rw [hd_l, gv_eq]
      simp only [mkArgs, handed]
      rcases s[i]? with _ | _ | ⟨d, n⟩ <;> try rfl
      simp only [hk, reduceCtorEq, if_false]
      rw [ih (j := j + 1)]
      by_cases hn : n = 1
      · subst hn
        cases d.mut <;> cases mkArgs none none s (j + 1) r <;> rfl
      · rw [if_neg hn, if_neg hn]
        cases mkArgs none none s (j + 1) r <;> rfl
    | inr d =>
      rw [hd_r, ih (j := j + 1)]
      simp only [mkArgs, handed]
      cases mkArgs none none s (j + 1) r <;> rfl
theorem w_call {F : AF} {args : List Arg} {s : AS} {Q : D → AS → Prop} : wp (fCall F none args s) Q = wa args s fun xs s1 => hd s1 xs fun as => wp (F as) fun d _ => Q d s1 := by
  unfold fCall wa
  cases evArgs args s with
  | ok xs s1 =>
    simp only [ioSlot, wp_ok]
    rw [hd_eq (j := 0)]
    cases mkArgs none none s1 0 xs with
    | none => rfl
    | some as =>
      simp only [wpo_some]
      cases F as <;> rfl
  | ex x s1 => rfl
  | no => rfl
/-- a call that may change a parameter -/
theorem w_callio {F : AF} {p : Nat} {args : List Arg} {s : AS} {Q : D → AS → Prop} : wp (fCall F (some p) args s) Q = wa args s fun xs s1 => wpo (mkArgs (ioSlot (some p) xs) (some p) s1 0 xs) fun as => wp (F as) fun d o => wpo (ioBack (ioSlot (some p) xs) o s1) fun s' => Q d s' := by
  unfold fCall wa
  cases evArgs args s with
  | ok xs s1 =>
    simp only [wp_ok]
    cases mkArgs (ioSlot (some p) xs) (some p) s1 0 xs with
    | none => rfl
    | some as =>
      simp only [wpo_some]
      cases F as with
      | ok d o =>
        simp only [wp_ok]
        cases ioBack (ioSlot (some p) xs) o s1 <;> rfl
      | ex x o =>
        simp only
        cases ioBack (ioSlot (some p) xs) o s1 <;> rfl
      | no => rfl
  | ex x s1 => rfl
  | no => rfl
theorem is_l {i : Nat} {r : List (Nat ⊕ D)} : ioSlot (some 0) (.inl i :: r) = some i := (rfl)
theorem is_r {d : D} {r : List (Nat ⊕ D)} : ioSlot (some 0) (.inr d :: r) = none := (rfl)
theorem is_s {p : Nat} {x : Nat ⊕ D} {r : List (Nat ⊕ D)} : ioSlot (some (p + 1)) (x :: r) = ioSlot (some p) r := (rfl)
theorem mk_nil {q io : Option Nat} {s : AS} {j : Nat} {K : List (D × Nat) → Prop} : wpo (mkArgs q io s j []) K = K [] := (rfl)
theorem mk_r {q io : Option Nat} {s : AS} {j : Nat} {d : D} {r : List (Nat ⊕ D)} {K : List (D × Nat) → Prop} : wpo (mkArgs q io s j (.inr d :: r)) K = wpo (mkArgs q io s (j + 1) r) fun as => K ((d, 0) :: as) := by
  simp only [mkArgs, handed]
  cases mkArgs q io s (j + 1) r <;> rfl
theorem mk_l {q io : Option Nat} {s : AS} {j : Nat} {i : Nat} {r : List (Nat ⊕ D)} {K : List (D × Nat) → Prop} : wpo (mkArgs q io s j (.inl i :: r)) K = gv s i fun d n => br (decide (q = some i)) (fun _ => br (decide (io = some j)) (fun _ => kk n (fun _ => False) fun _ => wpo (mkArgs q io s (j + 1) r) fun as => K ((d, 1) :: as)) fun _ => False) (fun _ => hk d n fun n' => wpo (mkArgs q io s (j + 1) r) fun as => K ((d, n') :: as)) := by
  simp only [mkArgs, handed]
  rw [gv_eq]
  rcases s[i]? with _ | _ | ⟨d, n⟩ <;> try rfl
  simp only
  by_cases hq : q = some i
  · subst hq
    simp only [if_true, decide_true, br_t]
    by_cases hj : io = some j
    · subst hj
      simp only [true_and, decide_true, br_t]
      rcases n with _ | _ | n
      · rfl
      · cases mkArgs (some i) (some j) s (j + 1) r <;> rfl
      · rfl
    · simp only [hj, false_and, if_false, decide_false, br_f]
      rfl
  · simp only [hq, if_false, decide_false, br_f, hk]
    by_cases hn : n = 1
    · subst hn
      cases d.mut <;> cases mkArgs q io s (j + 1) r <;> rfl
    · rw [if_neg hn, if_neg hn]
      cases mkArgs q io s (j + 1) r <;> rfl
theorem ib_n {o : Option (D × Nat)} {s : AS} : ioBack none o s = some s := (rfl)
theorem ib_s {i : Nat} {d : D} {n : Nat} {s : AS} {K : AS → Prop} : wpo (ioBack (some i) (some (d, n)) s) K = br (decide (n ≤ 1)) (fun _ => K (sv s i (some (d, n)))) (fun _ => False) := by
  simp only [ioBack]
  by_cases h : n ≤ 1
  · simp only [h, if_true, decide_true]; rfl
  · simp only [h, if_false, decide_false]; rfl
theorem ib_none {i : Nat} {s : AS} : ioBack (some i) none s = some (sv s i none) := (rfl)
/-- a body that is run -/
def wfl (o : Fl) (K : D → Prop) (_t : Kp K := ()) : Prop := match o with
  | .nx => K .non
  | .rt d => K d
  | _ => False
theorem wfl_n {K : D → Prop} : wfl .nx K = K .non := (rfl)
theorem wfl_r {d : D} {K : D → Prop} : wfl (.rt d) K = K d := (rfl)
theorem w_run {N : Nat} {io : Option Nat} {body : ASt} {args : List (D × Nat)} {Q : D → Option (D × Nat) → Prop} : wp (runDef N io body args) Q = wp (body (args.map some ++ List.replicate (N - args.length) none)) fun o s => wfl o fun d => Q d (ioVal io s) := by
  unfold runDef
  rcases body (args.map some ++ List.replicate (N - args.length) none) with ⟨_ | d | _ | _, s⟩ | ⟨x, s⟩ | _ <;> rfl
theorem iv_n {s : AS} : ioVal none s = none := (rfl)
theorem iv_z {x : Option (D × Nat)} {s : AS} : ioVal (some 0) (x :: s) = x := (rfl)
theorem iv_s {i : Nat} {x : Option (D × Nat)} {s : AS} : ioVal (some (i + 1)) (x :: s) = ioVal (some i) s := (rfl)
/-! ### statements -/
theorem w_next {s : AS} {Q : Fl → AS → Prop} : wp (fNext s) Q = Q .nx s := (rfl)
theorem w_break {s : AS} {Q : Fl → AS → Prop} : wp (fBreak s) Q = Q .bk s := (rfl)
theorem w_cont {s : AS} {Q : Fl → AS → Prop} : wp (fCont s) Q = Q .ct s := (rfl)
theorem w_never {s : AS} {Q : Fl → AS → Prop} : wp (fNever s) Q = False := (rfl)
/-- what comes next, or an end -/
def wx (o : Fl) (A : Unit → Prop) (B : Fl → Prop) (_a : Kp A := ()) (_b : Kp B := ()) : Prop := match o with
  | .nx => A ()
  | o => B o
theorem wx_n {A : Unit → Prop} {B : Fl → Prop} : wx .nx A B = A () := (rfl)
theorem wx_r {d : D} {A : Unit → Prop} {B : Fl → Prop} : wx (.rt d) A B = B (.rt d) := (rfl)
theorem wx_b {A : Unit → Prop} {B : Fl → Prop} : wx .bk A B = B .bk := (rfl)
theorem wx_c {A : Unit → Prop} {B : Fl → Prop} : wx .ct A B = B .ct := (rfl)
theorem w_seq {f g : ASt} {s : AS} {Q : Fl → AS → Prop} : wp (fSeq f g s) Q = wp (f s) fun o s1 => wx o (fun _ => wp (g s1) Q) fun o => Q o s1 := by
  unfold fSeq
  rcases f s with ⟨_ | d | _ | _, s1⟩ | ⟨x, s1⟩ | _ <;> rfl
theorem w_set {i : Nat} {n : Bool} {f : AE} {s : AS} {Q : Fl → AS → Prop} : wp (fSet i n f s) Q = wp (f s) fun d s1 => br (decide (i < s1.length)) (fun _ => Q .nx (sv s1 i (some (d, normK d n)))) fun _ => False := by
  unfold fSet
  cases f s with
  | ok d s1 =>
    simp only [wp_ok]
    by_cases h : i < s1.length
    · simp only [h, if_true, decide_true]; rfl
    · simp only [h, if_false, decide_false]; rfl
  | ex x s1 => rfl
  | no => rfl
theorem w_expr {f : AE} {s : AS} {Q : Fl → AS → Prop} : wp (fExpr f s) Q = wp (f s) fun _ s1 => Q .nx s1 := by
  unfold fExpr
  cases f s <;> rfl
theorem w_ret {f : AE} {s : AS} {Q : Fl → AS → Prop} : wp (fRet f s) Q = wp (f s) fun d s1 => Q (.rt d) s1 := by
  unfold fRet
  cases f s <;> rfl
theorem w_ifs {c : AT} {f g : ASt} {s : AS} {Q : Fl → AS → Prop} : wp (fIfS c f g s) Q = wp (c s) fun b s1 => br b (fun _ => wp (f s1) Q) (fun _ => wp (g s1) Q) := by
  unfold fIfS
  rcases c s with ⟨_ | _, s1⟩ | ⟨x, s1⟩ | _ <;> rfl
/-- several values -/
def wm (l : List (Bool × AE)) (s : AS) (K : List D → AS → Prop) (_t : Kp K := ()) : Prop := wp (evMany l s) K
theorem wm_nil {s : AS} {K : List D → AS → Prop} : wm [] s K = K [] s := (rfl)
theorem wm_c {n : Bool} {f : AE} {r : List (Bool × AE)} {s : AS} {K : List D → AS → Prop} : wm ((n, f) :: r) s K = wp (f s) fun d s1 => wm r s1 fun ds => K (d :: ds) := by
  unfold wm
  simp only [evMany]
  cases f s with
  | ok d s1 =>
    simp only [wp_ok]
    cases evMany r s1 <;> rfl
  | ex x s1 => rfl
  | no => rfl
theorem sm_nil {s : AS} : setMany [] [] s = some s := (rfl)
theorem sm_c {i : Nat} {n : Bool} {r : List (Nat × Bool)} {d : D} {ds : List D} {s : AS} {K : AS → Prop} : wpo (setMany ((i, n) :: r) (d :: ds) s) K = br (decide (i < s.length)) (fun _ => wpo (setMany r ds (sv s i (some (d, normK d n)))) K) fun _ => False := by
  simp only [setMany]
  by_cases h : i < s.length
  · simp only [h, if_true, decide_true]; rfl
  · simp only [h, if_false, decide_false]; rfl
theorem w_par {is : List Nat} {l : List (Bool × AE)} {s : AS} {Q : Fl → AS → Prop} : wp (fPar is l s) Q = wm l s fun ds s1 => wpo (setMany (is.zip (l.map (·.1))) ds s1) fun s2 => Q .nx s2 := by
  unfold fPar wm
  cases evMany l s with
  | ok ds s1 =>
    simp only [wp_ok]
    cases setMany (is.zip (l.map (·.1))) ds s1 <;> rfl
  | ex x s1 => rfl
  | no => rfl
theorem bt_n {i : Nat} {d : D} {s : AS} {K : AS → Prop} : wpo (bindT (.nm i) d s) K = br (decide (i < s.length)) (fun _ => K (sv s i (some (d, 0)))) fun _ => False := by
  simp only [bindT]
  by_cases h : i < s.length
  · simp only [h, if_true, decide_true]; rfl
  · simp only [h, if_false, decide_false]; rfl
theorem bt_t {ts : Tgs} {ds : List D} {s : AS} : bindT (.tp ts) (.tup ds) s = bindTs ts ds s := (rfl)
theorem bt_l {ts : Tgs} {ds : List D} {s : AS} : bindT (.tp ts) (.lst ds) s = bindTs ts ds s := (rfl)
theorem bts_n {s : AS} : bindTs .nil [] s = some s := (rfl)
theorem bts_c {t : Tg} {ts : Tgs} {d : D} {ds : List D} {s : AS} {K : AS → Prop} : wpo (bindTs (.cons t ts) (d :: ds) s) K = wpo (bindT t d s) fun s1 => wpo (bindTs ts ds s1) K := by
  simp only [bindTs]
  cases bindT t d s <;> rfl
theorem w_tgt {T : Tg} {f : AE} {s : AS} {Q : Fl → AS → Prop} : wp (fTgt T f s) Q = wp (f s) fun d s1 => wpo (bindT T d s1) fun s2 => Q .nx s2 := by
  unfold fTgt
  cases f s with
  | ok d s1 =>
    simp only [wp_ok]
    cases bindT T d s1 <;> rfl
  | ex x s1 => rfl
  | no => rfl
/-! ### walks -/
theorem w_it {f : AE} {s : AS} {Q : List D → AS → Prop} : wp (fIt f s) Q = wp (f s) fun d s1 => wpo d.walk fun ds => Q ds s1 := by
  unfold fIt
  cases f s with
  | ok d s1 =>
    simp only [wp_ok]
    cases d.walk <;> rfl
  | ex x s1 => rfl
  | no => rfl
theorem w_itV {i : Nat} {s : AS} {Q : List D → AS → Prop} : wp (fItV i s) Q = gv s i fun d n => br (decide (n = 1)) (fun _ => False) fun _ => wpo d.walk fun ds => Q ds s := by
  rw [gv_eq]
  unfold fItV
  rcases s[i]? with _ | _ | ⟨d, n⟩ <;> try rfl
  simp only
  by_cases h : n = 1
  · simp only [h, if_true, decide_true]; rfl
  · simp only [h, if_false, decide_false]
    cases d.walk <;> rfl
theorem w_itF {g : List D → Option (List D)} {args : List Arg} {s : AS} {Q : List D → AS → Prop} : wp (fItF g args s) Q = wa args s fun xs s1 => wi xs fun ds => wpo (g ds) fun is => Q is s1 := by
  unfold fItF wa
  cases evArgs args s with
  | ok xs s1 =>
    simp only [wi_eq, wp_ok]
    cases inrAll xs with
    | none => rfl
    | some ds =>
      simp only [wpo_some]
      cases g ds <;> rfl
  | ex x s1 => rfl
  | no => rfl
theorem w_for {f : AI} {T : Tg} {b : ASt} {s : AS} {Q : Fl → AS → Prop} : wp (fFor f T b s) Q = wp (f s) fun items s1 => wp (forGo T b items s1) Q := by
  unfold fFor
  cases f s <;> rfl
theorem w_lc {vs : List Nat} {f : AI} {T : Tg} {c : AT} {e : AE} {s : AS} {Q : D → AS → Prop} : wp (fLc vs f T c e s) Q = wp (f s) fun items s1 => br (okVs vs s1) (fun _ => items.length ≤ 16000000 ∧ wp (lcGo T c e vs items [] (unsets vs s1)) fun ds s2 => Q (.lst ds) (restore s1 vs s2)) fun _ => False := by
  unfold fLc
  cases f s with
  | ok items s1 =>
    simp only [wp_ok]
    cases okVs vs s1
    · rfl
    · simp only [true_and, br_t]
      by_cases h : items.length ≤ 16000000
      · simp only [h, if_true, true_and]
        cases lcGo T c e vs items [] (unsets vs s1) <;> rfl
      · simp only [h, if_false, false_and]; rfl
  | ex x s1 => rfl
  | no => rfl
/-! ### changes -/
theorem w_mut {T : Mu} {i : Nat} {g : D → List D → Option (D × D)} {args : List Arg} {s : AS} {Q : D → AS → Prop} : wp (fMut T i g args s) Q = gv s i fun d0 _ => br (T.ok d0) (fun _ => wa args s fun xs s1 => wi xs fun ds => gv s1 i fun d n => kk n (fun _ => False) fun _ => wpo (g d ds) fun p => Q p.2 (sv s1 i (some (p.1, 1)))) fun _ => False := by
  rw [gv_eq]
  unfold fMut wa
  rcases s[i]? with _ | _ | ⟨d0, n0⟩ <;> try rfl
  simp only
  cases T.ok d0
  · rfl
  · simp only [if_true, br_t]
    cases evArgs args s with
    | ok xs s1 =>
      simp only [wp_ok, wi_eq]
      cases inrAll xs with
      | none => rfl
      | some ds =>
        simp only [wpo_some]
        rw [gv_eq]
        rcases s1[i]? with _ | _ | ⟨d, _ | _ | n⟩ <;> try rfl
        simp only [Nat.zero_add, if_true, kk_1]
        rcases g d ds with _ | ⟨d', r⟩ <;> rfl
    | ex x s1 => rfl
    | no => rfl
theorem w_store {i : Nat} {g : D → D → D → Option D} {f : AE} {A : Arg} {s : AS} {Q : Fl → AS → Prop} : wp (fStore i g f A s) Q = wp (f s) fun d s1 => gv s1 i fun _ _ => wa [A] s1 fun xs s2 => wf s2 xs fun ks => gv s2 i fun c n => kk n (fun _ => False) fun _ => wpo (match ks with | [k] => g c k d | _ => none) fun c' => Q .nx (sv s2 i (some (c', 1))) := by
  unfold fStore
  cases f s with
  | ok d s1 =>
    simp only [wp_ok, gv_eq]
    simp only [evArgs, wa]
    rcases s1[i]? with _ | _ | ⟨c0, n0⟩ <;> try rfl
    simp only
    cases h : evArgs [A] s1 with
    | ok xs s2 =>
      have := evArgs_len h
      rcases xs with _ | ⟨x, _ | ⟨y, r⟩⟩ <;> try simp at this
      simp only [wp_ok, wf_eq, fetchAll]
      cases fetch s2 x with
      | none => rfl
      | some k =>
        simp only [wpo_some, gv_eq]
        rcases s2[i]? with _ | _ | ⟨c, _ | _ | n⟩ <;> try rfl
        simp only [Nat.zero_add, if_true, kk_1]
        cases g c k d <;> rfl
    | ex x s1 => rfl
    | no => rfl
  | ex x s1 => rfl
  | no => rfl
theorem st1 {g : D → D → D → Option D} {c k d : D} : (match [k] with | [k] => g c k d | _ => none) = g c k d := (rfl)
end PV
/-! PL 2: what the operations compute -/
namespace PV
open PySem PySem.Spec PyProof.Rows L2
/-! ### ints -/
/-- a product of the size that the model asks -/
def Mb (i j : Int) : Prop := (-(2 ^ 64) < i ∧ i < 2 ^ 64) ∨ (-(2 ^ 64) < j ∧ j < 2 ^ 64)
theorem mb_l {i j : Int} (h1 : -18446744073709551616 < i) (h2 : i < 18446744073709551616) : Mb i j := .inl ⟨h1, h2⟩
theorem mb_r {i j : Int} (h1 : -18446744073709551616 < j) (h2 : j < 18446744073709551616) : Mb i j := .inr ⟨h1, h2⟩
theorem o_add {i j : Int} : gAdd [.int i, .int j] = some (.int (i + j)) := (rfl)
theorem o_adds {a b : Str} {K : D → Prop} : wpo (gAdd [.str a, .str b]) K = (a.length + b.length ≤ 16000000 ∧ K (.str (a ++ b))) := wpo_ite
theorem o_addl {a b : List D} {K : D → Prop} : wpo (gAdd [.lst a, .lst b]) K = (a.length + b.length ≤ 16000000 ∧ K (.lst (a ++ b))) := wpo_ite
theorem o_addt {a b : List D} {K : D → Prop} : wpo (gAdd [.tup a, .tup b]) K = (a.length + b.length ≤ 16000000 ∧ K (.tup (a ++ b))) := wpo_ite
theorem o_sub {i j : Int} : gSub [.int i, .int j] = some (.int (i - j)) := (rfl)
theorem o_mul {i j : Int} {K : D → Prop} : wpo (gMul [.int i, .int j]) K = (Mb i j ∧ K (.int (i * j))) := wpo_ite
theorem o_mulB {i j : Int} (h : Mb i j) : gMul [.int i, .int j] = some (.int (i * j)) := if_pos h
theorem o_mull {a : List D} {k : Int} {K : D → Prop} : wpo (gMul [.lst a, .int k]) K = ((-(2 ^ 62) ≤ k ∧ k < 2 ^ 62 ∧ a.length * k.toNat ≤ 16000000) ∧ K (.lst (List.replicate k.toNat a).flatten)) := wpo_ite
theorem o_fd {i j : Int} {K : D → Prop} : wpo (gFdiv [.int i, .int j]) K = ((0 < j ∧ j < 1073741824) ∧ K (.int (i / j))) := by
  show wpo (if decide (0 < j ∧ j < 1073741824) = true then some _ else none) K = _
  rw [wpo_ite, decide_eq_true_eq]
theorem o_md {i j : Int} {K : D → Prop} : wpo (gMod [.int i, .int j]) K = (0 < j ∧ K (.int (i % j))) := by
  show wpo (if decide (0 < j) = true then some _ else none) K = _
  rw [wpo_ite, decide_eq_true_eq]
theorem o_pw {i j : Int} {K : D → Prop} : wpo (gPow [.int i, .int j]) K = ((0 ≤ j ∧ j ≤ 1000000 ∧ i.natAbs < 2 ^ 64) ∧ K (.int (i ^ j.toNat))) := by
  show wpo (if decide (0 ≤ j ∧ j ≤ 1000000 ∧ i.natAbs < 2 ^ 64) = true then some _ else none) K = _
  rw [wpo_ite, decide_eq_true_eq]
theorem o_ng {i : Int} : gNeg [.int i] = some (.int (-i)) := (rfl)
theorem o_lt {i j : Int} : gLt [.int i, .int j] = some (.bl (decide (i < j))) := (rfl)
theorem o_le {i j : Int} : gLe [.int i, .int j] = some (.bl (decide (i ≤ j))) := (rfl)
theorem o_gt {i j : Int} : gGt [.int i, .int j] = some (.bl (decide (j < i))) := (rfl)
theorem o_ge {i j : Int} : gGe [.int i, .int j] = some (.bl (decide (j ≤ i))) := (rfl)
theorem o_abs {i : Int} : gAbs [.int i] = some (.int (if i < 0 then -i else i)) := (rfl)
theorem o_int {i : Int} : gInt [.int i] = some (.int i) := (rfl)
theorem o_is_ii {i : Int} : gIs8 .int [.int i] = some (.bl true) := (rfl)
theorem o_is_bi {i : Int} : gIs8 .bool [.int i] = some (.bl false) := (rfl)
theorem o_is_ti {T : Ty8} {i : Int} : gIs8 T [.int i] = some (.bl (match T with | .int => true | _ => false)) := by cases T <;> rfl
theorem o_is_tb {T : Ty8} {i : Bool} : gIs8 T [.bl i] = some (.bl (match T with | .int | .bool => true | _ => false)) := by cases T <;> rfl
theorem o_is_ts {T : Ty8} {i : Str} : gIs8 T [.str i] = some (.bl (match T with | .str => true | _ => false)) := by cases T <;> rfl
theorem o_is_tt {T : Ty8} {i : List D} : gIs8 T [.tup i] = some (.bl (match T with | .tuple => true | _ => false)) := by cases T <;> rfl
theorem o_is_tl {T : Ty8} {i : List D} : gIs8 T [.lst i] = some (.bl (match T with | .list => true | _ => false)) := by cases T <;> rfl
/-! ### displays -/
theorem o_tup {ds : List D} {K : D → Prop} : wpo (gTupD ds) K = (ds.length ≤ 1000 ∧ K (.tup ds)) := wpo_ite
theorem o_lst {ds : List D} {K : D → Prop} : wpo (gLstD ds) K = (ds.length ≤ 1000 ∧ K (.lst ds)) := wpo_ite
/-! ### sequences -/
theorem o_lenl {xs : List D} : gLen [.lst xs] = some (.int xs.length) := (rfl)
theorem o_lent {xs : List D} : gLen [.tup xs] = some (.int xs.length) := (rfl)
theorem o_lenr {xs : List D} : gLen [.ro xs] = some (.int xs.length) := (rfl)
theorem o_lens {s : Str} {K : D → Prop} : wpo (gLen [.str s]) K = (s.length ≤ 16000000 ∧ K (.int s.length)) := wpo_ite
/-- an item of a list -/
def ixL (xs : List D) (i : Int) : Option D := atI xs i
theorem o_ixl {xs : List D} {i : Int} : gIdx [.lst xs, .int i] = ixL xs i := (rfl)
theorem o_ixt {xs : List D} {i : Int} : gIdx [.tup xs, .int i] = ixL xs i := (rfl)
theorem o_ixr {xs : List D} {i : Int} : gIdx [.ro xs, .int i] = ixL xs i := (rfl)
theorem ixL_nn {xs : List D} {i : Int} (h0 : 0 ≤ i) (h1 : i < xs.length) : ixL xs i = xs[i.toNat]? := by
  unfold ixL L2.atI
  have : ixN xs.length i = some i.toNat := by
    unfold ixN
    rw [if_pos h0, if_pos h1]
  rw [this]
  rfl
theorem ixL_neg {xs : List D} {i : Int} (h0 : i < 0) (h1 : -(xs.length : Int) ≤ i) : ixL xs i = xs[(xs.length + i).toNat]? := by
  unfold ixL L2.atI
  have : ixN xs.length i = some (xs.length + i).toNat := by
    unfold ixN
    rw [if_neg (by omega), if_pos h1, Int.add_comm]
  rw [this]
  rfl
theorem ixL_n {xs : List D} {n : Nat} : ixL xs (n : Int) = xs[n]? := by
  by_cases h : n < xs.length
  · rw [ixL_nn (by omega) (by omega)]; rfl
  · unfold ixL L2.atI ixN
    rw [if_pos (by omega), if_neg (by omega), List.getElem?_eq_none (by omega)]
    rfl
theorem ixL_o {xs : List D} {n : Nat} : ixL xs (no_index (OfNat.ofNat n : Int)) = xs[(OfNat.ofNat n : Nat)]? := ixL_n
theorem ixL_m1 {xs : List D} : ixL xs (-1) = xs.getLast? := by
  cases xs with
  | nil => rfl
  | cons x r =>
    rw [ixL_neg (by omega) (by simp only [List.length_cons]; omega), List.getLast?_eq_getElem?]
    congr 1
    simp only [List.length_cons]
    omega
/-- the ints of a typed list -/
theorem ixL_map {xs : List Int} {i : Int} (h0 : 0 ≤ i) (h1 : i < xs.length) : ixL (xs.map D.int) i = some (.int (xs.getD i.toNat 0)) := by
  rw [ixL_nn h0 (by simpa using h1), List.getElem?_map]
  have : i.toNat < xs.length := by omega
  rw [List.getElem?_eq_getElem this, List.getD_eq_getElem?_getD, List.getElem?_eq_getElem this]
  rfl
/-! ### == -/
theorem beq_dec {α : Type} [BEq α] [LawfulBEq α] [DecidableEq α] (a b : α) : (a == b) = decide (a = b) := by
  rw [Bool.eq_iff_iff, beq_iff_eq, decide_eq_true_eq]
mutual
/-- plain data that == looks at, of this depth -/
def okE : Nat → D → Bool
  | _, .non => true
  | _, .bl _ => true
  | _, .int _ => true
  | _, .str s => PyData.strOk s
  | n + 1, .tup xs => okEs n xs
  | n + 1, .lst xs => okEs n xs
  | n + 1, .ro xs => okEs n xs
  | _, _ => false
def okEs : Nat → List D → Bool
  | _, [] => true
  | n, x :: xs => okE n x && okEs n xs
end
mutual
theorem okE_py : ∀ {n : Nat} {d : D}, okE n d = true → ∃ p, d.py = some p ∧ p.canLay0 = true ∧ p.depth ≤ n
  | n, .non, _ => ⟨_, rfl, rfl, by simp [PyData.depth]⟩
  | n, .bl _, _ => ⟨_, rfl, rfl, by simp [PyData.depth]⟩
  | n, .int _, _ => ⟨_, rfl, rfl, by simp [PyData.depth]⟩
  | n, .str _, h => ⟨_, rfl, by simpa [PyData.canLay0, okE] using h, by simp [PyData.depth]⟩
  | n + 1, .tup xs, h => by
    obtain ⟨ps, e, c, dp⟩ := okEs_py (n := n) (xs := xs) (by simpa [okE] using h)
    exact ⟨.tuple ps, by simp [D.py, e], by simpa [PyData.canLay0] using c, by simp [PyData.depth]; exact dp⟩
  | n + 1, .lst xs, h => by
    obtain ⟨ps, e, c, dp⟩ := okEs_py (n := n) (xs := xs) (by simpa [okE] using h)
    exact ⟨.list ps, by simp [D.py, e], by simpa [PyData.canLay0] using c, by simp [PyData.depth]; exact dp⟩
  | n + 1, .ro xs, h => by
    obtain ⟨ps, e, c, dp⟩ := okEs_py (n := n) (xs := xs) (by simpa [okE] using h)
    exact ⟨.list ps, by simp [D.py, e], by simpa [PyData.canLay0] using c, by simp [PyData.depth]; exact dp⟩
  | 0, .tup xs, h => by simp [okE] at h
  | 0, .lst xs, h => by simp [okE] at h
  | 0, .ro xs, h => by simp [okE] at h
  | _, .ty _, h => by simp [okE] at h
  | _, .dic _ _, h => by simp [okE] at h
  | _, .set _, h => by simp [okE] at h
  | _, .fn _ _, h => by simp [okE] at h
  | _, .exc _ _, h => by simp [okE] at h
theorem okEs_py : ∀ {n : Nat} {xs : List D}, okEs n xs = true → ∃ ps, D.pys xs = some ps ∧ PyData.canLayAll0 ps = true ∧ PyData.depthAll ps ≤ n
  | n, [], _ => ⟨[], rfl, rfl, by simp [PyData.depthAll]⟩
  | n, x :: xs, h => by
    simp only [okEs, Bool.and_eq_true] at h
    obtain ⟨p, e, c, dp⟩ := okE_py h.1
    obtain ⟨ps, es, cs, dps⟩ := okEs_py h.2
    refine ⟨p :: ps, by simp [D.pys, e, es], by simp [PyData.canLayAll0, c, cs], ?_⟩
    simp only [PyData.depthAll]
    omega
end
/-- d == e -/
def eqD (d e : D) : Bool := match d.py, e.py with
  | some p, some q => PyData.eqv p q
  | _, _ => false
def eqDs (d e : List D) : Bool := match D.pys d, D.pys e with
  | some p, some q => PyData.eqvAll p q
  | _, _ => false
theorem eqP_ok {d e : D} (h1 : okE 64 d = true) (h2 : okE 64 e = true) : eqP d e = some (eqD d e) := by
  obtain ⟨p, e1, c1, d1⟩ := okE_py h1
  obtain ⟨q, e2, c2, d2⟩ := okE_py h2
  unfold eqP eqD
  rw [e1, e2]
  simp only
  rw [if_pos]
  unfold SeqAt.shaped
  simp only [Bool.and_eq_true, decide_eq_true_eq]
  exact ⟨⟨c1, d1⟩, c2, d2⟩
theorem o_eqS {a b : Str} : gEq [.str a, .str b] = some (.bl (decide (a = b))) := (rfl)
theorem o_neS {a b : Str} : gNe [.str a, .str b] = some (.bl (!decide (a = b))) := (rfl)
/-- both sides are such that == is known -/
def OkE (d e : D) : Prop := (∃ a b, d = .str a ∧ e = .str b) ∨ (okE 64 d = true ∧ okE 64 e = true)
theorem eqD_str {a b : Str} : eqD (.str a) (.str b) = decide (a = b) := by
  simp only [eqD, D.py, PyData.eqv]
  exact beq_dec a b
theorem gEq_ok {d e : D} (h : OkE d e) : gEq [d, e] = some (.bl (eqD d e)) := by
  rcases h with ⟨a, b, rfl, rfl⟩ | ⟨h1, h2⟩
  · rw [o_eqS, eqD_str]
  · unfold gEq
    split
    · rename_i a b e
      cases e
      rw [eqD_str]
    · rename_i d' e' _ h
      cases h
      rw [eqP_ok h1 h2]; rfl
    · rename_i h1 h2
      first | exact absurd rfl (h1 _ _) | exact absurd rfl (h2 _ _)
theorem gNe_ok {d e : D} (h : OkE d e) : gNe [d, e] = some (.bl (!eqD d e)) := by
  rcases h with ⟨a, b, rfl, rfl⟩ | ⟨h1, h2⟩
  · rw [o_neS, eqD_str]
  · unfold gNe
    split
    · rename_i a b e
      cases e
      rw [eqD_str]
    · rename_i d' e' _ h
      cases h
      rw [eqP_ok h1 h2]; rfl
    · rename_i h1 h2
      first | exact absurd rfl (h1 _ _) | exact absurd rfl (h2 _ _)
theorem OkE.str {a b : Str} : OkE (.str a) (.str b) := .inl ⟨a, b, rfl, rfl⟩
theorem okE_of {d e : D} (h1 : okE 64 d = true) (h2 : okE 64 e = true) : OkE d e := .inr ⟨h1, h2⟩
theorem o_eqI {a b : Int} : gEq [.int a, .int b] = some (.bl (decide (a = b))) := by
  rw [gEq_ok (.inr ⟨rfl, rfl⟩)]
  simp only [eqD, D.py, PyData.eqv]
  rw [beq_dec a b]
theorem o_neI {a b : Int} : gNe [.int a, .int b] = some (.bl (!decide (a = b))) := by
  rw [gNe_ok (.inr ⟨rfl, rfl⟩)]
  simp only [eqD, D.py, PyData.eqv]
  rw [beq_dec a b]
theorem o_eqB {a b : Bool} : gEq [.bl a, .bl b] = some (.bl (decide (a = b))) := by
  rw [gEq_ok (.inr ⟨rfl, rfl⟩)]
  simp only [eqD, D.py, PyData.eqv]
  rw [beq_dec a b]
theorem o_neB {a b : Bool} : gNe [.bl a, .bl b] = some (.bl (!decide (a = b))) := by
  rw [gNe_ok (.inr ⟨rfl, rfl⟩)]
  simp only [eqD, D.py, PyData.eqv]
  rw [beq_dec a b]
theorem okE_int {n : Nat} {i : Int} : okE n (.int i) = true := by cases n <;> rfl
theorem okE_bl {n : Nat} {i : Bool} : okE n (.bl i) = true := by cases n <;> rfl
theorem okE_non {n : Nat} : okE n .non = true := by cases n <;> rfl
theorem okE_str {n : Nat} {s : Str} : okE n (.str s) = PyData.strOk s := by cases n <;> rfl
theorem okE_tup {n : Nat} {xs : List D} : okE (n + 1) (.tup xs) = okEs n xs := (rfl)
theorem okE_lst {n : Nat} {xs : List D} : okE (n + 1) (.lst xs) = okEs n xs := (rfl)
theorem okEs_nil {n : Nat} : okEs n [] = true := by cases n <;> rfl
theorem okEs_c {n : Nat} {x : D} {xs : List D} : okEs n (x :: xs) = (okE n x && okEs n xs) := by cases n <;> rfl
theorem okEs_ints {n : Nat} : ∀ {xs : List Int}, okEs n (xs.map D.int) = true
  | [] => okEs_nil
  | x :: xs => by rw [List.map_cons, okEs_c, okE_int, okEs_ints]; rfl
theorem okEs_map {n : Nat} {α : Type} {f : α → D} : ∀ {xs : List α}, (∀ x ∈ xs, okE n (f x) = true) → okEs n (xs.map f) = true
  | [], _ => okEs_nil
  | x :: xs, h => by rw [List.map_cons, okEs_c, h x (by simp), okEs_map fun y hy => h y (by simp [hy])]; rfl
theorem okEs_app {n : Nat} : ∀ {xs ys : List D}, okEs n (xs ++ ys) = (okEs n xs && okEs n ys)
  | [], ys => by rw [okEs_nil]; rfl
  | x :: xs, ys => by rw [List.cons_append, okEs_c, okEs_c, okEs_app, Bool.and_assoc]
theorem eqD_int {a b : Int} : eqD (.int a) (.int b) = decide (a = b) := by
  simp only [eqD, D.py, PyData.eqv]
  exact beq_dec a b
theorem eqD_bl {a b : Bool} : eqD (.bl a) (.bl b) = decide (a = b) := by
  simp only [eqD, D.py, PyData.eqv]
  exact beq_dec a b
theorem eqD_non : eqD .non .non = true := by simp only [eqD, D.py, PyData.eqv]
theorem eqD_tup {a b : List D} : eqD (.tup a) (.tup b) = eqDs a b := by
  simp only [eqD, eqDs, D.py]
  cases D.pys a <;> cases D.pys b <;> first | rfl | simp only [Option.map_some, PyData.eqv]
theorem eqD_lst {a b : List D} : eqD (.lst a) (.lst b) = eqDs a b := by
  simp only [eqD, eqDs, D.py]
  cases D.pys a <;> cases D.pys b <;> first | rfl | simp only [Option.map_some, PyData.eqv]
theorem eqDs_nil : eqDs [] [] = true := by simp only [eqDs, D.pys, PyData.eqvAll]
theorem eqDs_c {x y : D} {a b : List D} : eqDs (x :: a) (y :: b) = (eqD x y && eqDs a b) := by
  simp only [eqD, eqDs, D.pys]
  cases x.py <;> cases y.py <;> cases D.pys a <;> cases D.pys b <;> first | rfl | simp only [PyData.eqvAll, Bool.and_false, Bool.false_and]
theorem eqDs_cn {x : D} {a : List D} : eqDs (x :: a) [] = false := by
  simp only [eqDs, D.pys]
  cases x.py <;> cases D.pys a <;> first | rfl | simp only [PyData.eqvAll]
theorem eqDs_nc {x : D} {a : List D} : eqDs [] (x :: a) = false := by
  simp only [eqDs, D.pys]
  cases x.py <;> cases D.pys a <;> first | rfl | simp only [PyData.eqvAll]
theorem eqDs_ints : ∀ {a b : List Int}, eqDs (a.map D.int) (b.map D.int) = decide (a = b)
  | [], [] => eqDs_nil
  | [], _ :: _ => by rw [List.map_nil, List.map_cons, eqDs_nc]; simp
  | _ :: _, [] => by rw [List.map_nil, List.map_cons, eqDs_cn]; simp
  | x :: a, y :: b => by
    rw [List.map_cons, List.map_cons, eqDs_c, eqD_int, eqDs_ints, ← Bool.decide_and]
    exact decide_eq_decide.mpr (by rw [List.cons.injEq])
mutual
theorem eqD_rfl : ∀ {n : Nat} {d : D}, okE n d = true → eqD d d = true
  | n, d, h => by
    obtain ⟨p, e, c, _⟩ := okE_py h
    simp only [eqD, e]
    exact SeqAt.eqv_refl p c
end
end PV
/-! PL 3: repr; sums; loops -/
namespace PV
open PySem PySem.Spec PyProof.Rows L2
/-! ### repr -/
/-- a value's repr -/
def shw (d : D) : Str := match d.py with
  | some p => p.shown
  | none => match d.pyD with
    | some p => p.shown
    | none => ""
def OkR (d : D) : Prop := gReprB [d] = some (.str (shw d))
theorem gRepr_ok {d : D} (h : OkR d) : gReprB [d] = some (.str (shw d)) := h
theorem okR_P {d : D} (h : reprP d = some (shw d)) : OkR d := by
  unfold OkR gReprB
  have : gRepr [d] = some (.str (shw d)) := by
    show (reprP d).map D.str = _
    rw [h]; rfl
  rw [this]
/-- of a thing that may hold dicts -/
theorem okR_D {d : D} {p : PyData} (hn : d.py = none) (hd : (∃ xs, d = .tup xs) ∨ (∃ xs, d = .lst xs) ∨ ∃ t xs, d = .dic t xs) (hp : d.pyD = some p) (h1 : p.showable = true) (h2 : p.depth ≤ 60) (h3 : p.shown.length ≤ 16000000) : OkR d ∧ shw d = p.shown := by
  have e1 : shw d = p.shown := by unfold shw; rw [hn, hp]
  refine ⟨?_, e1⟩
  unfold OkR gReprB
  have : gRepr [d] = none := by
    show (reprP d).map D.str = _
    unfold reprP; rw [hn]; rfl
  rw [this, e1]
  have go : reprQ.go d = some p.shown := by
    unfold reprQ.go
    rw [hp]
    simp only
    rw [if_pos ⟨h1, h2, h3⟩]
  have q : reprQ d = some p.shown := by
    rcases hd with ⟨xs, rfl⟩ | ⟨xs, rfl⟩ | ⟨t, xs, rfl⟩ <;> exact go
  show (reprQ d).map D.str = _
  rw [q]; rfl
mutual
/-- plain data of this depth whose repr is short -/
def okS : Nat → D → Prop
  | _, .non => True
  | _, .bl _ => True
  | _, .int i => i.natAbs < 10 ^ 500
  | _, .str s => PyData.strOk s = true
  | n + 1, .tup xs => okSs n xs
  | n + 1, .lst xs => okSs n xs
  | n + 1, .ro xs => okSs n xs
  | _, _ => False
def okSs : Nat → List D → Prop
  | _, [] => True
  | n, x :: xs => okS n x ∧ okSs n xs
end
mutual
def siz : D → Nat
  | .str s => s.cps.size
  | .tup xs => sizs xs
  | .lst xs => sizs xs
  | .ro xs => sizs xs
  | _ => 0
def sizs : List D → Nat
  | [] => 0
  | x :: xs => siz x + 1 + sizs xs
end
theorem log2_500 {n : Nat} (h : n < 10 ^ 500) : n.log2 < 1920 := by
  by_cases h0 : n = 0
  · subst h0; decide
  · exact (Nat.log2_lt h0).mpr (Nat.lt_trans h (by decide +kernel))
theorem shown_500 {i : Int} (h : i.natAbs < 10 ^ 500) : (PyData.shown (.int i)).length ≤ 501 := by
  have e := int_text_length_le10 (k := 500) (by decide) h
  show (Str.ofString (toString i)).length ≤ 501
  rw [PySem.ofString_length]; exact e
mutual
theorem okS_py : ∀ {n : Nat} {d : D}, okS n d → ∃ p, d.py = some p ∧ p.showable = true ∧ p.hasDict = false ∧ p.depth ≤ n ∧ p.leavesShort 501 = true ∧ p.bulk = siz d
  | n, .non, _ => ⟨_, rfl, by simp [PyData.showable], by simp [PyData.hasDict], by simp [PyData.depth], by simp [PyData.leavesShort], by simp [PyData.bulk, siz]⟩
  | n, .bl _, _ => ⟨_, rfl, by simp [PyData.showable], by simp [PyData.hasDict], by simp [PyData.depth], by simp [PyData.leavesShort], by simp [PyData.bulk, siz]⟩
  | n, .int i, h => by
    have h : i.natAbs < 10 ^ 500 := by simpa only [okS] using h
    refine ⟨_, rfl, ?_, by simp only [PyData.hasDict], by simp [PyData.depth], ?_, by simp only [PyData.bulk, siz]⟩
    · simp only [PyData.showable, decide_eq_true_eq]
      exact log2_500 h
    · simp only [PyData.leavesShort, decide_eq_true_eq]
      exact shown_500 h
  | n, .str s, h => by
    have h : PyData.strOk s = true := by simpa only [okS] using h
    refine ⟨_, rfl, by simp [PyData.showable], by simp [PyData.hasDict], by simp [PyData.depth], ?_, by simp only [PyData.bulk, siz]⟩
    simp only [PyData.leavesShort]
    unfold PyData.strOk at h
    rw [List.all_eq_true]
    intro c hc
    rw [Array.all_eq_true'] at h
    have := h c (by simpa using hc)
    simp only [decide_eq_true_eq] at this ⊢
    omega
  | n + 1, .tup xs, h => by
    obtain ⟨ps, e, a, b, c, d, f⟩ := okSs_py (n := n) (xs := xs) (by simpa only [okS] using h)
    exact ⟨.tuple ps, by simp [D.py, e], by simpa only [PyData.showable] using a, by simpa only [PyData.hasDict] using b, by simp only [PyData.depth]; omega, by simpa only [PyData.leavesShort] using d, by simpa only [PyData.bulk, siz] using f⟩
  | n + 1, .lst xs, h => by
    obtain ⟨ps, e, a, b, c, d, f⟩ := okSs_py (n := n) (xs := xs) (by simpa only [okS] using h)
    exact ⟨.list ps, by simp [D.py, e], by simpa only [PyData.showable] using a, by simpa only [PyData.hasDict] using b, by simp only [PyData.depth]; omega, by simpa only [PyData.leavesShort] using d, by simpa only [PyData.bulk, siz] using f⟩
  | n + 1, .ro xs, h => by
    obtain ⟨ps, e, a, b, c, d, f⟩ := okSs_py (n := n) (xs := xs) (by simpa only [okS] using h)
    exact ⟨.list ps, by simp [D.py, e], by simpa only [PyData.showable] using a, by simpa only [PyData.hasDict] using b, by simp only [PyData.depth]; omega, by simpa only [PyData.leavesShort] using d, by simpa only [PyData.bulk, siz] using f⟩
  | 0, .tup xs, h => by simp [okS] at h
  | 0, .lst xs, h => by simp [okS] at h
  | 0, .ro xs, h => by simp [okS] at h
  | _, .ty _, h => by simp [okS] at h
  | _, .dic _ _, h => by simp [okS] at h
  | _, .set _, h => by simp [okS] at h
  | _, .fn _ _, h => by simp [okS] at h
  | _, .exc _ _, h => by simp [okS] at h
theorem okSs_py : ∀ {n : Nat} {xs : List D}, okSs n xs → ∃ ps, D.pys xs = some ps ∧ PyData.showableAll ps = true ∧ PyData.hasDictAll ps = false ∧ PyData.depthAll ps ≤ n ∧ PyData.leavesShortAll 501 ps = true ∧ PyData.bulkAll ps = sizs xs
  | n, [], _ => ⟨[], rfl, by simp [PyData.showableAll], by simp [PyData.hasDictAll], by simp [PyData.depthAll], by simp [PyData.leavesShortAll], by simp [PyData.bulkAll, sizs]⟩
  | n, x :: xs, h => by
    simp only [okSs] at h
    obtain ⟨p, e, a, b, c, d, f⟩ := okS_py h.1
    obtain ⟨ps, es, as, bs, cs, ds, fs⟩ := okSs_py h.2
    refine ⟨p :: ps, by simp [D.pys, e, es], by simp only [PyData.showableAll, a, as, Bool.and_self], by simp only [PyData.hasDictAll, b, bs, Bool.or_self], ?_, by simp only [PyData.leavesShortAll, d, ds, Bool.and_self], by simp only [PyData.bulkAll, sizs, f, fs]⟩
    simp only [PyData.depthAll]
    omega
end
theorem okR_of {d : D} (h : okS 64 d) (b : siz d ≤ 30000) : OkR d := by
  obtain ⟨p, e, a, hd, c, l, f⟩ := okS_py h
  refine okR_P ?_
  unfold reprP shw
  rw [e]
  simp only
  rw [if_pos]
  refine ⟨a, hd, c, ?_⟩
  have := PyData.shown_le_bulk 501 (by omega) p l
  rw [f] at this
  omega
theorem okS_int {n : Nat} {i : Int} (h1 : -1000000000000000000000 < i) (h2 : i < 1000000000000000000000) : okS n (.int i) := by
  have : i.natAbs < 10 ^ 500 := Nat.lt_trans (m := 1000000000000000000000) (by omega) (by decide +kernel)
  cases n <;> simpa only [okS] using this
theorem okS_tup {n : Nat} {xs : List D} : okS (n + 1) (.tup xs) = okSs n xs := by simp only [okS]
theorem okS_lst {n : Nat} {xs : List D} : okS (n + 1) (.lst xs) = okSs n xs := by simp only [okS]
theorem okS_bl {n : Nat} {b : Bool} : okS n (.bl b) = True := by cases n <;> simp only [okS]
theorem okS_non {n : Nat} : okS n .non = True := by cases n <;> simp only [okS]
theorem okS_str {n : Nat} {s : Str} : okS n (.str s) = (PyData.strOk s = true) := by cases n <;> simp only [okS]
theorem okSs_nil {n : Nat} : okSs n [] = True := by cases n <;> simp only [okSs]
theorem okSs_c {n : Nat} {x : D} {xs : List D} : okSs n (x :: xs) = (okS n x ∧ okSs n xs) := by cases n <;> simp only [okSs]
theorem okSs_map {n : Nat} {α : Type} {f : α → D} : ∀ {xs : List α}, (∀ x ∈ xs, okS n (f x)) → okSs n (xs.map f)
  | [], _ => by rw [List.map_nil, okSs_nil]; trivial
  | x :: xs, h => by rw [List.map_cons, okSs_c]; exact ⟨h x (by simp), okSs_map fun y hy => h y (by simp [hy])⟩
theorem siz_int {i : Int} : siz (.int i) = 0 := by simp only [siz]
theorem siz_bl {i : Bool} : siz (.bl i) = 0 := by simp only [siz]
theorem siz_non : siz .non = 0 := by simp only [siz]
theorem siz_str {s : Str} : siz (.str s) = s.length := by simp only [siz]; rfl
theorem siz_tup {xs : List D} : siz (.tup xs) = sizs xs := by simp only [siz]
theorem siz_lst {xs : List D} : siz (.lst xs) = sizs xs := by simp only [siz]
theorem sizs_nil : sizs [] = 0 := by simp only [sizs]
theorem sizs_c {x : D} {xs : List D} : sizs (x :: xs) = siz x + 1 + sizs xs := by simp only [sizs]
theorem sizs_ints : ∀ {xs : List Int}, sizs (xs.map D.int) = xs.length
  | [] => by rw [List.map_nil, sizs_nil]; rfl
  | x :: xs => by rw [List.map_cons, sizs_c, siz_int, sizs_ints, List.length_cons]; omega
theorem sizs_map {α : Type} {f : α → D} {k : Nat} : ∀ {xs : List α}, (∀ x ∈ xs, siz (f x) ≤ k) → sizs (xs.map f) ≤ xs.length * (k + 1)
  | [], _ => by rw [List.map_nil, sizs_nil]; omega
  | x :: xs, h => by
    have h1 := h x (by simp)
    have h2 := sizs_map (xs := xs) (f := f) (k := k) fun y hy => h y (by simp [hy])
    rw [List.map_cons, sizs_c, List.length_cons, Nat.succ_mul]
    omega
theorem okR_int {i : Int} (h1 : -1000000000000000000000 < i) (h2 : i < 1000000000000000000000) : OkR (.int i) := okR_of (okS_int h1 h2) (by rw [siz_int]; omega)
theorem okR_tupI {xs : List Int} (h : ∀ x ∈ xs, -1000000000000000000000 < x ∧ x < 1000000000000000000000) (l : xs.length ≤ 30000) : OkR (.tup (xs.map D.int)) := okR_of (by rw [okS_tup]; exact okSs_map fun x hx => okS_int (h x hx).1 (h x hx).2) (by rw [siz_tup, sizs_ints]; exact l)
theorem okR_lstI {xs : List Int} (h : ∀ x ∈ xs, -1000000000000000000000 < x ∧ x < 1000000000000000000000) (l : xs.length ≤ 30000) : OkR (.lst (xs.map D.int)) := okR_of (by rw [okS_lst]; exact okSs_map fun x hx => okS_int (h x hx).1 (h x hx).2) (by rw [siz_lst, sizs_ints]; exact l)
/-! ### whole lists -/
theorem o_sumI {xs : List Int} : gSum [.lst (xs.map D.int)] = some (.int xs.sum) := by
  unfold gSum
  simp only [D.items?, Option.bind_some, intsOf_map, Option.map_some]
theorem o_sumM {α : Type} {f : α → Int} {xs : List α} : gSum [.lst (xs.map fun x => D.int (f x))] = some (.int (xs.map f).sum) := by
  have e : (xs.map fun x => D.int (f x)) = (xs.map f).map D.int := by rw [List.map_map]; rfl
  rw [e, o_sumI]
theorem o_allM {α : Type} {f : α → Bool} {xs : List α} : gAll [.lst (xs.map fun x => D.bl (f x))] = some (.bl (xs.all f)) := by
  have e : (xs.map fun x => D.bl (f x)) = (xs.map f).map D.bl := by rw [List.map_map]; rfl
  rw [e]
  unfold gAll
  simp only [D.items?, Option.bind_some, boolsOf_map, Option.map_some, List.all_map]
  rfl
theorem o_anyM {α : Type} {f : α → Bool} {xs : List α} : gAny [.lst (xs.map fun x => D.bl (f x))] = some (.bl (xs.any f)) := by
  have e : (xs.map fun x => D.bl (f x)) = (xs.map f).map D.bl := by rw [List.map_map]; rfl
  rw [e]
  unfold gAny
  simp only [D.items?, Option.bind_some, boolsOf_map, Option.map_some, List.any_map]
  rfl
theorem o_sum {xs : List D} : gSum [.lst xs] = (intsOf xs).map fun ns => .int ns.sum := (rfl)
theorem o_allB {xs : List Bool} : gAll [.lst (xs.map D.bl)] = some (.bl (xs.all id)) := by
  unfold gAll
  simp only [D.items?, Option.bind_some, boolsOf_map, Option.map_some]
theorem o_anyB {xs : List Bool} : gAny [.lst (xs.map D.bl)] = some (.bl (xs.any id)) := by
  unfold gAny
  simp only [D.items?, Option.bind_some, boolsOf_map, Option.map_some]
theorem o_max2 {i j : Int} : gMax [.int i, .int j] = some (.int (if j > i then j else i)) := (rfl)
theorem o_min2 {i j : Int} : gMin [.int i, .int j] = some (.int (if j < i then j else i)) := (rfl)
theorem o_maxI {xs : List Int} : gMax [.lst (xs.map D.int)] = (maxI xs).map .int := by
  unfold gMax
  simp only [D.items?, Option.bind_some, intsOf_map]
theorem o_minI {xs : List Int} : gMin [.lst (xs.map D.int)] = (minI xs).map .int := by
  unfold gMin
  simp only [D.items?, Option.bind_some, intsOf_map]
theorem o_tuple {xs : List D} : gTuple [.lst xs] = some (.tup xs) := (rfl)
theorem o_tuplet {xs : List D} : gTuple [.tup xs] = some (.tup xs) := (rfl)
theorem o_list {xs : List D} : gList [.lst xs] = some (.lst xs) := (rfl)
theorem o_listt {xs : List D} : gList [.tup xs] = some (.lst xs) := (rfl)
theorem o_rng1 {b : Int} {K : List D → Prop} : wpo (gRng1 [.int b]) K = ((-(2 ^ 62) ≤ b ∧ b < 2 ^ 62) ∧ K ((List.range b.toNat).map fun i => .int (i : Nat))) := wpo_ite
theorem o_rng2 {a b : Int} {K : List D → Prop} : wpo (gRng2 [.int a, .int b]) K = ((-(2 ^ 62) ≤ a ∧ a < 2 ^ 62 ∧ -(2 ^ 62) ≤ b ∧ b < 2 ^ 62) ∧ K ((List.range (b - a).toNat).map fun i => .int (a + (i : Nat)))) := wpo_ite
theorem o_append {xs : List D} {d : D} {K : D × D → Prop} : wpo (gAppend (.lst xs) [d]) K = (xs.length < 16000000 ∧ K (.lst (xs ++ [d]), .non)) := wpo_ite
theorem o_pop {xs : List D} {K : D × D → Prop} : wpo (gPop (.lst xs) []) K = wpo (xs[xs.length - 1]?) fun d => K (.lst xs.dropLast, d) := wpo_map
theorem o_set {xs : List D} {i : Int} {d : D} {K : D → Prop} : wpo (gSetL (.lst xs) (.int i) d) K = wpo (ixN xs.length i) fun j => K (.lst (xs.set j d)) := wpo_map
theorem ixN_nn {n : Nat} {i : Int} (h0 : 0 ≤ i) (h1 : i < n) : ixN n i = some i.toNat := by
  unfold ixN
  rw [if_pos h0, if_pos h1]
theorem ixN_neg {n : Nat} {i : Int} (h0 : i < 0) (h1 : -(n : Int) ≤ i) : ixN n i = some (i + n).toNat := by
  unfold ixN
  rw [if_neg (by omega), if_pos h1]
theorem ixN_o {n k : Nat} : ixN n (no_index (OfNat.ofNat k : Int)) = if (OfNat.ofNat k : Nat) < n then some (OfNat.ofNat k) else none := by
  show ixN n ((k : Nat) : Int) = if k < n then some k else none
  unfold ixN
  rw [if_pos (by omega)]
  by_cases h : k < n
  · rw [if_pos (by omega), if_pos h]; rfl
  · rw [if_neg (by omega), if_neg h]
theorem wk_l {xs : List D} : (D.lst xs).walk = some xs := (rfl)
theorem wk_t {xs : List D} : (D.tup xs).walk = some xs := (rfl)
theorem wk_r {xs : List D} : (D.ro xs).walk = some xs := (rfl)
theorem wk_s {s : Str} : (D.str s).walk = some (signsD s) := (rfl)
theorem mu_l {xs : List D} : Mu.ok .list (.lst xs) = true := (rfl)
theorem mu_d {b : Bool} {xs : List (D × D)} : Mu.ok .dict (.dic b xs) = true := (rfl)
theorem d_mut_l {xs : List D} : (D.lst xs).mut = true := (rfl)
theorem d_mut_i {i : Int} : (D.int i).mut = false := (rfl)
theorem d_mut_b {i : Bool} : (D.bl i).mut = false := (rfl)
theorem d_mut_s {i : Str} : (D.str i).mut = false := (rfl)
theorem d_mut_t {i : List D} : (D.tup i).mut = false := (rfl)
theorem d_mut_n : (D.non).mut = false := (rfl)
/-! ### loops -/
/-- a turn's end -/
def fo (J : AS → Prop) (Q : Fl → AS → Prop) (o : Fl) (s : AS) (_a : Kp J := ()) (_b : Kp Q := ()) : Prop := match o with
  | .nx => J s
  | .ct => J s
  | .bk => Q .nx s
  | .rt d => Q (.rt d) s
theorem fo_n {J : AS → Prop} {Q : Fl → AS → Prop} {s : AS} : fo J Q .nx s = J s := (rfl)
theorem fo_c {J : AS → Prop} {Q : Fl → AS → Prop} {s : AS} : fo J Q .ct s = J s := (rfl)
theorem fo_b {J : AS → Prop} {Q : Fl → AS → Prop} {s : AS} : fo J Q .bk s = Q .nx s := (rfl)
theorem fo_r {J : AS → Prop} {Q : Fl → AS → Prop} {s : AS} {d : D} : fo J Q (.rt d) s = Q (.rt d) s := (rfl)
theorem wp_while {c : AT} {b : ASt} (I : AS → Prop) (m : AS → Nat) {Q : Fl → AS → Prop} (step : ∀ s, I s → wp (c s) fun t s1 => br t (fun _ => wp (b s1) (fo (fun s2 => I s2 ∧ m s2 < m s) Q)) (fun _ => Q .nx s1)) : ∀ {N : Nat} {s : AS}, I s → m s < N → wp (fWhile N c b s) Q
  | 0, s, _, hm => absurd hm (Nat.not_lt_zero _)
  | N + 1, s, h0, hm => by
    have h := step s h0
    simp only [fWhile]
    cases hc : c s with
    | ok t s1 =>
      rw [hc] at h
      cases t with
      | false => exact h
      | true =>
        simp only [wp_ok, br_t] at h ⊢
        cases hb : b s1 with
        | ok o s2 =>
          rw [hb] at h
          cases o with
          | nx => exact wp_while I m step h.1 (Nat.lt_of_lt_of_le h.2 (Nat.le_of_lt_succ hm))
          | ct => exact wp_while I m step h.1 (Nat.lt_of_lt_of_le h.2 (Nat.le_of_lt_succ hm))
          | bk => exact h
          | rt d => exact h
        | ex x s2 => rw [hb] at h; exact h.elim
        | no => rw [hb] at h; exact h.elim
    | ex x s1 => rw [hc] at h; exact h.elim
    | no => rw [hc] at h; exact h.elim
theorem wp_for {T : Tg} {b : ASt} {Q : Fl → AS → Prop} : ∀ {items : List D} (I : Nat → AS → Prop) {s : AS}, I 0 s →
    (∀ i d s, items[i]? = some d → I i s → wpo (bindT T d s) fun s1 => wp (b s1) (fo (I (i + 1)) Q)) → (∀ s, I items.length s → Q .nx s) → wp (forGo T b items s) Q
  | [], I, s, h0, _, he => he s h0
  | d :: r, I, s, h0, step, he => by
    have h := step 0 d s rfl h0
    simp only [forGo]
    cases hb : bindT T d s with
    | none => rw [hb] at h; exact h.elim
    | some s1 =>
      rw [hb] at h
      simp only [wpo_some] at h ⊢
      have go := fun s2 (h : I 1 s2) => wp_for (items := r) (T := T) (b := b) (Q := Q) (fun i => I (i + 1)) h (fun i d s e h => step (i + 1) d s (by simpa using e) h) (fun s h => he s h)
      cases hq : b s1 with
      | ok o s2 =>
        rw [hq] at h
        cases o with
        | nx => exact go s2 h
        | ct => exact go s2 h
        | bk => exact h
        | rt d => exact h
      | ex x s2 => rw [hq] at h; exact h.elim
      | no => rw [hq] at h; exact h.elim
/-- over typed items -/
theorem wp_forM {α : Type} {f : α → D} {T : Tg} {b : ASt} {Q : Fl → AS → Prop} {xs : List α} (I : Nat → AS → Prop) {s : AS} (h0 : I 0 s)
    (step : ∀ i x s, xs[i]? = some x → I i s → wpo (bindT T (f x) s) fun s1 => wp (b s1) (fo (I (i + 1)) Q)) (he : ∀ s, I xs.length s → Q .nx s) : wp (forGo T b (xs.map f) s) Q :=
  wp_for I h0 (fun i d s e h => by
    rw [List.getElem?_map, Option.map_eq_some_iff] at e
    obtain ⟨x, e, rfl⟩ := e
    exact step i x s e h) (fun s h => he s (by simpa using h))
/-- over a range -/
theorem wp_forR {n : Nat} {f : Nat → D} {T : Tg} {b : ASt} {Q : Fl → AS → Prop} (I : Nat → AS → Prop) {s : AS} (h0 : I 0 s)
    (step : ∀ i s, i < n → I i s → wpo (bindT T (f i) s) fun s1 => wp (b s1) (fo (I (i + 1)) Q)) (he : ∀ s, I n s → Q .nx s) : wp (forGo T b ((List.range n).map f) s) Q :=
  wp_forM I h0 (fun i x s e h => by
    have hi : i < n := by
      have := (List.getElem?_eq_some_iff.mp e).1
      simpa using this
    rw [List.getElem?_range hi] at e
    cases e
    exact step i s hi h) (fun s h => he s (by simpa using h))
theorem wp_lcGo {T : Tg} {c : AT} {e : AE} {vs : List Nat} {Q : List D → AS → Prop} : ∀ {items : List D} (I : Nat → List D → AS → Prop) {acc : List D} {s : AS}, I 0 acc s →
    (∀ i d acc s, items[i]? = some d → I i acc s → wpo (bindT T d s) fun s1 => wp (c s1) fun t s2 => br t (fun _ => wp (e s2) fun y s3 => I (i + 1) (acc ++ [y]) (unsets vs s3)) (fun _ => I (i + 1) acc (unsets vs s2))) →
    (∀ acc s, I items.length acc s → Q acc s) → wp (lcGo T c e vs items acc s) Q
  | [], I, acc, s, h0, _, he => he acc s h0
  | d :: r, I, acc, s, h0, step, he => by
    have h := step 0 d acc s rfl h0
    simp only [lcGo]
    cases hb : bindT T d s with
    | none => rw [hb] at h; exact h.elim
    | some s1 =>
      rw [hb] at h
      simp only [wpo_some] at h ⊢
      have go := fun acc s2 (h : I 1 acc s2) => wp_lcGo (items := r) (T := T) (c := c) (e := e) (vs := vs) (Q := Q) (fun i => I (i + 1)) h (fun i d acc s e h => step (i + 1) d acc s (by simpa using e) h) (fun acc s h => he acc s h)
      cases hc : c s1 with
      | ok t s2 =>
        rw [hc] at h
        cases t with
        | false => exact go _ _ h
        | true =>
          simp only [wp_ok, br_t] at h ⊢
          cases hq : e s2 with
          | ok y s3 =>
            rw [hq] at h
            exact go _ _ h
          | ex x s2 => rw [hq] at h; exact h.elim
          | no => rw [hq] at h; exact h.elim
      | ex x s2 => rw [hc] at h; exact h.elim
      | no => rw [hc] at h; exact h.elim
/-- every item is turned into one -/
theorem wp_lcM {α : Type} {f : α → D} (g : α → D) {T : Tg} {c : AT} {e : AE} {vs : List Nat} {Q : List D → AS → Prop} {xs : List α} {s : AS}
    (step : ∀ x ∈ xs, wpo (bindT T (f x) s) fun s1 => wp (c s1) fun t s2 => br t (fun _ => wp (e s2) fun y s3 => y = g x ∧ unsets vs s3 = s) (fun _ => False)) (q : Q (xs.map g) s) : wp (lcGo T c e vs (xs.map f) [] s) Q := by
  refine wp_lcGo (fun i acc s' => s' = s ∧ acc = (xs.take i).map g) ⟨rfl, rfl⟩ ?_ ?_
  · rintro i d acc s' hd ⟨rfl, rfl⟩
    rw [List.getElem?_map, Option.map_eq_some_iff] at hd
    obtain ⟨x, hx, rfl⟩ := hd
    have h := step x (List.mem_of_getElem? hx)
    cases hb : bindT T (f x) s' with
    | none => rw [hb] at h; exact h.elim
    | some s1 =>
      rw [hb] at h
      refine wp_mono h fun t s2 h => ?_
      cases t with
      | false => exact h.elim
      | true =>
        refine wp_mono h fun y s3 h => ?_
        refine ⟨h.2, ?_⟩
        rw [h.1, List.take_add_one, hx]
        simp
  · rintro acc s' ⟨rfl, rfl⟩
    simpa using q
/-- some items, each turned into one -/
theorem wp_lcF {α : Type} {f : α → D} (p : α → Bool) (g : α → D) {T : Tg} {c : AT} {e : AE} {vs : List Nat} {Q : List D → AS → Prop} {xs : List α} {s : AS}
    (step : ∀ x ∈ xs, wpo (bindT T (f x) s) fun s1 => wp (c s1) fun t s2 => t = p x ∧ br (p x) (fun _ => wp (e s2) fun y s3 => y = g x ∧ unsets vs s3 = s) (fun _ => unsets vs s2 = s)) (q : Q ((xs.filter p).map g) s) : wp (lcGo T c e vs (xs.map f) [] s) Q := by
  refine wp_lcGo (fun i acc s' => s' = s ∧ acc = ((xs.take i).filter p).map g) ⟨rfl, rfl⟩ ?_ ?_
  · rintro i d acc s' hd ⟨rfl, rfl⟩
    rw [List.getElem?_map, Option.map_eq_some_iff] at hd
    obtain ⟨x, hx, rfl⟩ := hd
    have h := step x (List.mem_of_getElem? hx)
    cases hb : bindT T (f x) s' with
    | none => rw [hb] at h; exact h.elim
    | some s1 =>
      rw [hb] at h
      refine wp_mono h fun t s2 h => ?_
      obtain ⟨ht, h⟩ := h
      subst ht
      cases hp : p x with
      | false =>
        rw [hp] at h
        refine ⟨h, ?_⟩
        rw [List.take_add_one, hx]
        simp [hp]
      | true =>
        rw [hp] at h
        refine wp_mono h fun y s3 h => ?_
        refine ⟨h.2, ?_⟩
        rw [h.1, List.take_add_one, hx]
        simp [hp]
  · rintro acc s' ⟨rfl, rfl⟩
    simpa using q
theorem un_nil {s : AS} : unsets [] s = s := (rfl)
theorem un_c {i : Nat} {is : List Nat} {s : AS} : unsets (i :: is) s = sv (unsets is s) i none := (rfl)
theorem re_nil {s0 s : AS} : restore s0 [] s = s := (rfl)
theorem re_c {s0 s : AS} {i : Nat} {is : List Nat} : restore s0 (i :: is) s = sv (restore s0 is s) i ((s0[i]?).join) := (rfl)
theorem ov_nil {s : AS} : okVs [] s = true := (rfl)
def kOk : Option (Option (D × Nat)) → Bool
  | some (some (_, 1)) => false
  | _ => true
theorem ov_c {i : Nat} {is : List Nat} {s : AS} : okVs (i :: is) s = (kOk s[i]? && okVs is s) := by
  unfold okVs kOk
  rfl
theorem kOk_0 {d : D} : kOk (some (some (d, 0))) = true := (rfl)
theorem kOk_1 {d : D} : kOk (some (some (d, 1))) = false := (rfl)
theorem kOk_2 {d : D} : kOk (some (some (d, 2))) = true := (rfl)
theorem kOk_n : kOk (some none) = true := (rfl)
end PV
/-! PL 4: the law's hand -/
namespace PV
open PySem PySem.Spec PyProof.Rows L2
/-- a law's hand: its cells, the next cell, what is left of a great cell, the state, the count -/
def HandOk (d : D) : Prop := ∃ (cells : List Int) (h1 h2 h3 h4 : Int), d = .lst [.lst (cells.map D.int), .int h1, .int h2, .int h3, .int h4] ∧ 0 ≤ h1 ∧ 0 ≤ h2 ∧ cells.length ≤ 63 ∧ ∀ c ∈ cells, 0 ≤ c
theorem handOk_mk {cells : List Int} {h1 h2 h3 h4 : Int} (p1 : 0 ≤ h1) (p2 : 0 ≤ h2) (l : cells.length ≤ 63) (pc : ∀ c ∈ cells, 0 ≤ c) : HandOk (.lst [.lst (cells.map D.int), .int h1, .int h2, .int h3, .int h4]) := ⟨cells, h1, h2, h3, h4, rfl, p1, p2, l, pc⟩
theorem HandOk.nk {h : D} (hh : HandOk h) : normK h true = 1 := by
  obtain ⟨_, _, _, _, _, rfl, _⟩ := hh
  rfl
theorem HandOk.mut {h : D} (hh : HandOk h) : h.mut = true := by
  obtain ⟨_, _, _, _, _, rfl, _⟩ := hh
  rfl
theorem handOk_new {ns : List Int} {h3 : Int} (hl : ns.length ≤ 63) : HandOk (.lst [.lst (ns.map fun i => .int (if i < 0 then -i else i)), .int 0, .int 0, .int h3, .int 0]) := by
  have e : (ns.map fun i => D.int (if i < 0 then -i else i)) = (ns.map fun i => if i < 0 then -i else i).map D.int := by rw [List.map_map]; rfl
  rw [e]
  refine handOk_mk (by omega) (by omega) (by rw [List.length_map]; omega) ?_
  intro c hc
  simp only [List.mem_map] at hc
  obtain ⟨a, _, rfl⟩ := hc
  split <;> omega
theorem getD_nn {cells : List Int} (pc : ∀ c ∈ cells, 0 ≤ c) (n : Nat) : 0 ≤ cells.getD n 0 := by
  rw [List.getD_eq_getElem?_getD]
  rcases h : cells[n]? with _ | c
  · exact Int.le_refl 0
  · exact pc c (List.mem_of_getElem? h)
/-- a draw: below many, and the hand stays one -/
def DrawOk (F : AF) : Prop := ∀ h m, HandOk h → 0 < m → m < 1073741824 → wp (F [(h, 1), (.int m, 0)]) fun d o => ∃ r h', d = .int r ∧ 0 ≤ r ∧ r < m ∧ o = some (h', 1) ∧ HandOk h'
theorem DrawOk.go {F : AF} (F0 : DrawOk F) {h : D} {m : Int} {K : D → Option (D × Nat) → Prop} (hh : HandOk h) (m0 : 0 < m) (m1 : m < 1073741824) (k : ∀ r h', 0 ≤ r ∧ r < m → HandOk h' → K (.int r) (some (h', 1))) : wp (F [(h, 1), (.int m, 0)]) K := by
  refine wp_mono (F0 h m hh m0 m1) ?_
  rintro d o ⟨r, h', rfl, r0, r1, rfl, hh'⟩
  exact k r h' ⟨r0, r1⟩ hh'
/-- a choice among ints -/
def SomeOk (F : AF) : Prop := ∀ h (xs : List D) n, n ≠ 1 → HandOk h → 0 < xs.length → xs.length < 1073741824 → wp (F [(h, 1), (.lst xs, n)]) fun d o => ∃ i h', i < xs.length ∧ xs[i]? = some d ∧ o = some (h', 1) ∧ HandOk h'
def SomeOkT (F : AF) : Prop := ∀ h (xs : List D) n, n ≠ 1 → HandOk h → 0 < xs.length → xs.length < 1073741824 → wp (F [(h, 1), (.tup xs, n)]) fun d o => ∃ i h', i < xs.length ∧ xs[i]? = some d ∧ o = some (h', 1) ∧ HandOk h'
theorem SomeOk.go {F : AF} (F0 : SomeOk F) {h : D} {xs : List D} {n : Nat} {K : D → Option (D × Nat) → Prop} (hn : n ≠ 1) (hh : HandOk h) (m0 : 0 < xs.length) (m1 : xs.length < 1073741824) (k : ∀ i d h', i < xs.length → xs[i]? = some d → HandOk h' → K d (some (h', 1))) : wp (F [(h, 1), (.lst xs, n)]) K := by
  refine wp_mono (F0 h xs n hn hh m0 m1) ?_
  rintro d o ⟨i, h', hi, hx, rfl, hh'⟩
  exact k i d h' hi hx hh'
theorem SomeOkT.go {F : AF} (F0 : SomeOkT F) {h : D} {xs : List D} {n : Nat} {K : D → Option (D × Nat) → Prop} (hn : n ≠ 1) (hh : HandOk h) (m0 : 0 < xs.length) (m1 : xs.length < 1073741824) (k : ∀ i d h', i < xs.length → xs[i]? = some d → HandOk h' → K d (some (h', 1))) : wp (F [(h, 1), (.tup xs, n)]) K := by
  refine wp_mono (F0 h xs n hn hh m0 m1) ?_
  rintro d o ⟨i, h', hi, hx, rfl, hh'⟩
  exact k i d h' hi hx hh'
/-- a law's part that says yes -/
def YesOk (F : AF) : Prop := ∀ h, HandOk h → wp (F [(h, 1)]) fun d o => d = .bl true ∧ ∃ h', o = some (h', 1) ∧ HandOk h'
theorem YesOk.go {F : AF} (F0 : YesOk F) {h : D} {K : D → Option (D × Nat) → Prop} (hh : HandOk h) (k : ∀ h', HandOk h' → K (.bl true) (some (h', 1))) : wp (F [(h, 1)]) K := by
  refine wp_mono (F0 h hh) ?_
  rintro d o ⟨rfl, h', rfl, hh'⟩
  exact k h' hh'
/-- the hand that a script makes -/
def MakeOk (F : AF) : Prop := ∀ ns : List Int, ns.length ≤ 63 → wp (F [(.ro (ns.map D.int), 0)]) fun d _ => HandOk d
theorem MakeOk.go {F : AF} (F0 : MakeOk F) {ns : List Int} {n : Nat} {K : D → Option (D × Nat) → Prop} (hn : n = 0) (h : ns.length ≤ 63) (k : ∀ d o, HandOk d → K d o) : wp (F [(.ro (ns.map D.int), n)]) K := by
  subst hn
  exact wp_mono (F0 ns h) k
theorem br_no {b : Bool} {A B : Unit → Prop} (h : b = false) (k : B ()) : br b A B := by subst h; exact k
theorem br_yes {b : Bool} {A B : Unit → Prop} (h : b = true) (k : A ()) : br b A B := by subst h; exact k
/-- as many yes -/
def yesL (n : Nat) : List D := List.replicate n (.bl true)
theorem all_yes {n : Nat} : gAll [.lst (yesL n)] = some (.bl true) := by
  unfold yesL
  have e : List.replicate n (D.bl true) = (List.replicate n true).map D.bl := by simp
  rw [e, o_allB]
  simp
/-- every item of a comprehension is yes; the hand stands in slot 1 of three -/
theorem lc_yes {items : List D} {e : AE} {x : Option (D × Nat)} {h : D} {Q : List D → AS → Prop} (hh : HandOk h)
    (step : ∀ d h', d ∈ items → HandOk h' → wp (e [x, some (h', 1), some (d, 0)]) fun y s => y = .bl true ∧ ∃ h'' z, HandOk h'' ∧ s = [x, some (h'', 1), z])
    (q : ∀ h', HandOk h' → Q (yesL items.length) [x, some (h', 1), none]) : wp (lcGo (.nm 2) fYes e [2] items [] [x, some (h, 1), none]) Q := by
  refine wp_lcGo (fun i acc s => acc = List.replicate i (.bl true) ∧ ∃ h', HandOk h' ∧ s = [x, some (h', 1), none]) ⟨rfl, h, hh, rfl⟩ ?_ ?_
  · rintro i d acc s hd ⟨rfl, h', hh', rfl⟩
    show wp (e [x, some (h', 1), some (d, 0)]) _
    refine wp_mono (step d h' (List.mem_of_getElem? hd) hh') ?_
    rintro y s ⟨rfl, h'', z, hh'', rfl⟩
    exact ⟨by rw [List.replicate_succ'], h'', hh'', rfl⟩
  · rintro acc s ⟨rfl, h', hh', rfl⟩
    exact q h' hh'
theorem law_of {F : AF} (h : ∀ ns : List Int, ns.length ≤ 63 → wp (F [(.ro (ns.map D.int), 0)]) fun d _ => d = .bl true) : ∀ ns : List Int, ns.length ≤ 63 → ∃ o, F [(.ro (ns.map D.int), 0)] = .ok (.bl true) o := fun ns hl => by
  obtain ⟨d, o, e, rfl⟩ := wp_iff.mp (h ns hl)
  exact ⟨o, e⟩
/-- all([part(hand) for turn in range(n)]) -/
theorem cut_script {ns : List Int} (h : ns.length ≤ 63) : cutOf none (some 63) (.ro (ns.map D.int)) = some (.lst (ns.map D.int)) := by
  have e : cutD (ns.map D.int) none (some 63) = ns.map D.int := by
    refine cutD_whole ⟨rfl, ?_⟩
    simp only [List.length_map]
    show HT.sIx ns.length ns.length (some 63) = ns.length
    unfold HT.sIx
    simp
    omega
  show some (D.lst (cutD _ _ _)) = _
  rw [e]
theorem br_ci {p : Prop} [Decidable p] {A B : Unit → Prop} (h1 : p → A ()) (h2 : ¬p → B ()) : br (decide p) A B := br_i (fun e => h1 (of_decide_eq_true e)) fun e => h2 (of_decide_eq_false e)
theorem br_cn {p : Prop} [Decidable p] {A B : Unit → Prop} (h : ¬p) (k : B ()) : br (decide p) A B := br_no (decide_eq_false h) k
theorem br_cy {p : Prop} [Decidable p] {A B : Unit → Prop} (h : p) (k : A ()) : br (decide p) A B := br_yes (decide_eq_true h) k
theorem o_slH {d : D} {j : Int} : gSl false true [d, .int j] = cutOf none (some j) d := (rfl)
theorem o_slL {d : D} {j : Int} : gSl true false [d, .int j] = cutOf (some j) none d := (rfl)
theorem o_sl2 {d : D} {i j : Int} : gSl true true [d, .int i, .int j] = cutOf (some i) (some j) d := (rfl)
theorem o_sl0 {d : D} : gSl false false [d] = cutOf none none d := (rfl)
end PV
/-! PL 5: more operations -/
namespace PV
open PySem PySem.Spec PyProof.Rows L2
theorem o_isb {a b : Bool} : gIsN [.bl a, .bl b] = some (.bl (decide (a = b))) := (rfl)
theorem o_isn {d : D} : gIsN [d, .non] = some (.bl d.isNon) := by cases d <;> rfl
theorem o_notb {a b : Bool} : gNotN [.bl a, .bl b] = some (.bl (!decide (a = b))) := (rfl)
theorem o_notn {d : D} : gNotN [d, .non] = some (.bl (!d.isNon)) := by cases d <;> rfl
theorem in_int {i : Int} : (D.int i).isNon = false := (rfl)
theorem in_non : (D.non).isNon = true := (rfl)
theorem in_tup {i : List D} : (D.tup i).isNon = false := (rfl)
theorem in_lst {i : List D} : (D.lst i).isNon = false := (rfl)
theorem in_str {i : Str} : (D.str i).isNon = false := (rfl)
theorem in_bl {i : Bool} : (D.bl i).isNon = false := (rfl)
theorem flats_ints : ∀ {ns : List Int}, flats (ns.map D.int) = some (ns.map V.int)
  | [] => rfl
  | i :: r => by simp only [List.map_cons, flats, D.flat?, flats_ints]
theorem flats_strs : ∀ {ns : List Str}, flats (ns.map D.str) = some (ns.map V.str)
  | [] => rfl
  | i :: r => by simp only [List.map_cons, flats, D.flat?, flats_strs]
theorem inV_ints {i : Int} : ∀ {ns : List Int}, inV (.int i) (ns.map V.int) = decide (i ∈ ns)
  | [] => rfl
  | j :: r => by
    have ih := inV_ints (i := i) (ns := r)
    unfold inV at ih ⊢
    rw [List.map_cons, List.any_cons, ih]
    simp only [eqV, List.mem_cons, Bool.decide_or]
    rw [beq_dec]
    congr 1
    exact decide_eq_decide.mpr eq_comm
theorem inV_strs {i : Str} : ∀ {ns : List Str}, inV (.str i) (ns.map V.str) = decide (i ∈ ns)
  | [] => rfl
  | j :: r => by
    have ih := inV_strs (i := i) (ns := r)
    unfold inV at ih ⊢
    rw [List.map_cons, List.any_cons, ih]
    simp only [eqV, List.mem_cons, Bool.decide_or]
    rw [beq_dec]
    congr 1
    exact decide_eq_decide.mpr eq_comm
theorem o_inI {i : Int} {ns : List Int} : gIn [.int i, .lst (ns.map D.int)] = some (.bl (decide (i ∈ ns))) := by
  show (inB (.int i) (.lst (ns.map D.int))).map D.bl = _
  unfold inB
  simp only [D.flat?, D.items, Option.bind_some, flats_ints, inV_ints, Option.map_some]
theorem o_inIt {i : Int} {ns : List Int} : gIn [.int i, .tup (ns.map D.int)] = some (.bl (decide (i ∈ ns))) := by
  show (inB (.int i) (.tup (ns.map D.int))).map D.bl = _
  unfold inB
  simp only [D.flat?, D.items, Option.bind_some, flats_ints, inV_ints, Option.map_some]
theorem o_ninI {i : Int} {ns : List Int} : gNotIn [.int i, .lst (ns.map D.int)] = some (.bl (!decide (i ∈ ns))) := by
  show (inB (.int i) (.lst (ns.map D.int))).map (fun b => D.bl (!b)) = _
  unfold inB
  simp only [D.flat?, D.items, Option.bind_some, flats_ints, inV_ints, Option.map_some]
theorem o_ninIt {i : Int} {ns : List Int} : gNotIn [.int i, .tup (ns.map D.int)] = some (.bl (!decide (i ∈ ns))) := by
  show (inB (.int i) (.tup (ns.map D.int))).map (fun b => D.bl (!b)) = _
  unfold inB
  simp only [D.flat?, D.items, Option.bind_some, flats_ints, inV_ints, Option.map_some]
theorem o_inS {i : Str} {ns : List Str} : gIn [.str i, .lst (ns.map D.str)] = some (.bl (decide (i ∈ ns))) := by
  show (inB (.str i) (.lst (ns.map D.str))).map D.bl = _
  unfold inB
  simp only [D.flat?, D.items, Option.bind_some, flats_strs, inV_strs, Option.map_some]
theorem o_inSt {i : Str} {ns : List Str} : gIn [.str i, .tup (ns.map D.str)] = some (.bl (decide (i ∈ ns))) := by
  show (inB (.str i) (.tup (ns.map D.str))).map D.bl = _
  unfold inB
  simp only [D.flat?, D.items, Option.bind_some, flats_strs, inV_strs, Option.map_some]
/-- the ints from a below b -/
def rgI (a b : Int) : List Int := (List.range (b - a).toNat).map fun i => a + (i : Nat)
theorem rgI_len {a b : Int} : (rgI a b).length = (b - a).toNat := by simp [rgI]
theorem mem_rgI {a b i : Int} : i ∈ rgI a b ↔ a ≤ i ∧ i < b := by
  simp only [rgI, List.mem_map, List.mem_range]
  constructor
  · rintro ⟨j, hj, rfl⟩; omega
  · intro h; exact ⟨(i - a).toNat, by omega, by omega⟩
theorem rangeD_eq {a b : Int} : rangeD a b = (rgI a b).map D.int := by
  unfold rangeD rgI
  rw [List.map_map]; rfl
theorem rgOk_of {a b : Int} (h : -4611686018427387904 ≤ a ∧ b < 4611686018427387904 ∧ a ≤ 4611686018427387903 ∧ -4611686018427387904 ≤ b ∧ b - a ≤ 16000000) : rgOk a b = true := by
  unfold rgOk
  rw [decide_eq_true_eq]
  omega
theorem o_lrg1 {b : Int} (h : -4611686018427387904 ≤ b ∧ b ≤ 16000000) : gLRg1 [.int b] = some (.lst ((rgI 0 b).map D.int)) := by
  show (if rgOk 0 b = true then some _ else none) = _
  rw [if_pos (rgOk_of (by omega)), rangeD_eq]
theorem o_lrg2 {a b : Int} (h : -4611686018427387904 ≤ a ∧ b < 4611686018427387904 ∧ a ≤ 4611686018427387903 ∧ -4611686018427387904 ≤ b ∧ b - a ≤ 16000000) : gLRg2 [.int a, .int b] = some (.lst ((rgI a b).map D.int)) := by
  show (if rgOk a b = true then some _ else none) = _
  rw [if_pos (rgOk_of h), rangeD_eq]
theorem o_trg1 {b : Int} (h : -4611686018427387904 ≤ b ∧ b ≤ 16000000) : gTRg1 [.int b] = some (.tup ((rgI 0 b).map D.int)) := by
  show (if rgOk 0 b = true then some _ else none) = _
  rw [if_pos (rgOk_of (by omega)), rangeD_eq]
theorem erase_map : ∀ {ns : List Int} {i : Nat}, (ns.map D.int).eraseIdx i = (ns.eraseIdx i).map D.int
  | [], _ => rfl
  | _ :: _, 0 => rfl
  | x :: r, i + 1 => by simp [erase_map]
theorem o_popAtI {ns : List Int} {i : Int} (h : 0 ≤ i ∧ i < ns.length) (l : ns.length ≤ 16000000) : gPopAt (.lst (ns.map D.int)) [.int i] = some (.lst ((ns.eraseIdx i.toNat).map D.int), .int (ns.getD i.toNat 0)) := by
  show (if -(2 ^ 62) ≤ i ∧ i < 2 ^ 62 then _ else none) = _
  rw [if_pos (by omega)]
  have e : seqIndex? i (ns.map D.int).length = some i.toNat := by
    unfold seqIndex?
    have n0 : ¬ i < 0 := by omega
    simp only [List.length_map, n0, if_false, h.1, h.2, decide_true, Bool.and_self, if_true]
  rw [e]
  have h2 : i.toNat < ns.length := by omega
  simp only [Option.bind_some, List.getElem?_map, List.getElem?_eq_getElem h2, Option.map_some, List.getD_eq_getElem?_getD, Option.getD_some]
  rw [erase_map]
theorem o_sortI {ns : List Int} : gSorted [.lst (ns.map D.int)] = some (.lst ((srt ns).map D.int)) := by
  unfold gSorted
  simp only [D.items, Option.bind_some, intsOf_map, Option.map_some]
theorem o_sortIt {ns : List Int} : gSorted [.tup (ns.map D.int)] = some (.lst ((srt ns).map D.int)) := by
  unfold gSorted
  simp only [D.items, Option.bind_some, intsOf_map, Option.map_some]
theorem o_extend {xs ys : List D} {K : D × D → Prop} : wpo (gExtend (.lst xs) [.lst ys]) K = (xs.length + ys.length ≤ 16000000 ∧ K (.lst (xs ++ ys), .non)) := wpo_ite
theorem o_revL {xs : List D} : gRevL [.lst xs] = some (.lst xs.reverse) := (rfl)
theorem o_zipl {xs ys : List D} : gZip [.lst xs, .lst ys] = some (zipD xs ys) := (rfl)
theorem o_zipt {xs ys : List D} : gZip [.tup xs, .tup ys] = some (zipD xs ys) := (rfl)
theorem o_rev {xs : List D} : gRev [.lst xs] = some xs.reverse := (rfl)
theorem o_enum {xs : List D} : gEnum [.lst xs] = some ((List.range xs.length).map fun i => .tup [.int (i : Nat), xs.getD i .non]) := (rfl)
/-- operands of a walk -/
def wfp (s : AS) (xs : List (Nat ⊕ D)) (K : List D → Prop) (_t : Kp K := ()) : Prop := wpo (fetchPs s xs) K
theorem wfp_nil {s : AS} {K : List D → Prop} : wfp s [] K = K [] := (rfl)
theorem wfp_r {s : AS} {d : D} {r : List (Nat ⊕ D)} {K : List D → Prop} : wfp s (.inr d :: r) K = wfp s r fun ds => K (d :: ds) := by
  unfold wfp
  simp only [fetchPs, fetchP]
  cases fetchPs s r <;> rfl
theorem wfp_l {s : AS} {i : Nat} {r : List (Nat ⊕ D)} {K : List D → Prop} : wfp s (.inl i :: r) K = gv s i fun d n => br (decide (n = 1)) (fun _ => False) fun _ => wfp s r fun ds => K (d :: ds) := by
  unfold wfp
  rw [gv_eq]
  simp only [fetchPs, fetchP]
  rcases s[i]? with _ | _ | ⟨d, n⟩ <;> try rfl
  simp only
  by_cases h : n = 1
  · simp only [h, if_true, decide_true, br_t]; rfl
  · simp only [h, if_false, decide_false, br_f]
    cases fetchPs s r <;> rfl
theorem w_itP {g : List D → Option (List D)} {args : List Arg} {s : AS} {Q : List D → AS → Prop} : wp (fItP g args s) Q = wa args s fun xs s1 => wfp s1 xs fun ds => wpo (g ds) fun is => Q is s1 := by
  unfold fItP wa
  cases evArgs args s with
  | ok xs s1 =>
    simp only [wfp, wp_ok]
    cases fetchPs s1 xs with
    | none => rfl
    | some ds =>
      simp only [wpo_some]
      cases g ds <;> rfl
  | ex x s1 => rfl
  | no => rfl
theorem o_ninItM {α : Type} {f : α → Int} {i : Int} {xs : List α} : gNotIn [.int i, .tup (xs.map fun x => D.int (f x))] = some (.bl (!decide (i ∈ xs.map f))) := by
  have e : (xs.map fun x => D.int (f x)) = (xs.map f).map D.int := by rw [List.map_map]; rfl
  rw [e, o_ninIt]
theorem o_ninIM {α : Type} {f : α → Int} {i : Int} {xs : List α} : gNotIn [.int i, .lst (xs.map fun x => D.int (f x))] = some (.bl (!decide (i ∈ xs.map f))) := by
  have e : (xs.map fun x => D.int (f x)) = (xs.map f).map D.int := by rw [List.map_map]; rfl
  rw [e, o_ninI]
theorem o_inItM {α : Type} {f : α → Int} {i : Int} {xs : List α} : gIn [.int i, .tup (xs.map fun x => D.int (f x))] = some (.bl (decide (i ∈ xs.map f))) := by
  have e : (xs.map fun x => D.int (f x)) = (xs.map f).map D.int := by rw [List.map_map]; rfl
  rw [e, o_inIt]
theorem o_inIM {α : Type} {f : α → Int} {i : Int} {xs : List α} : gIn [.int i, .lst (xs.map fun x => D.int (f x))] = some (.bl (decide (i ∈ xs.map f))) := by
  have e : (xs.map fun x => D.int (f x)) = (xs.map f).map D.int := by rw [List.map_map]; rfl
  rw [e, o_inI]
theorem ixL_rg {f : Nat → Int} {n : Nat} {j : Int} (h0 : 0 ≤ j) (h1 : j < n) : ixL ((List.range n).map fun i => D.int (f i)) j = some (.int (f j.toNat)) := by
  rw [ixL_nn h0 (by simpa using h1), List.getElem?_map, List.getElem?_range (by omega)]
  rfl
theorem okR_tupF {α : Type} {f : α → Int} {xs : List α} (h : ∀ x ∈ xs, -1000000000000000000000 < f x ∧ f x < 1000000000000000000000) (l : xs.length ≤ 30000) : OkR (.tup (xs.map fun x => .int (f x))) := by
  have e : (xs.map fun x => D.int (f x)) = (xs.map f).map D.int := by rw [List.map_map]; rfl
  rw [e]
  refine okR_tupI ?_ (by simpa using l)
  intro y hy
  obtain ⟨x, hx, rfl⟩ := List.mem_map.mp hy
  exact h x hx
theorem okR_lstF {α : Type} {f : α → Int} {xs : List α} (h : ∀ x ∈ xs, -1000000000000000000000 < f x ∧ f x < 1000000000000000000000) (l : xs.length ≤ 30000) : OkR (.lst (xs.map fun x => .int (f x))) := by
  have e : (xs.map fun x => D.int (f x)) = (xs.map f).map D.int := by rw [List.map_map]; rfl
  rw [e]
  refine okR_lstI ?_ (by simpa using l)
  intro y hy
  obtain ⟨x, hx, rfl⟩ := List.mem_map.mp hy
  exact h x hx
theorem cut_take {α : Type} {xs : List α} {k : Int} (h : 0 ≤ k) : cutD xs none (some k) = xs.take k.toNat := by
  unfold cutD
  simp only [HT.sIx]
  rw [if_neg (by omega), List.drop_zero, Nat.sub_zero]
  rcases Nat.le_total k.toNat xs.length with q | q
  · rw [Nat.min_eq_left q]
  · rw [Nat.min_eq_right q, List.take_length, List.take_of_length_le q]
theorem cut_drop {α : Type} {xs : List α} {k : Int} (h : 0 ≤ k) : cutD xs (some k) none = xs.drop k.toNat := by
  unfold cutD
  simp only [HT.sIx]
  rw [if_neg (by omega)]
  rcases Nat.le_total k.toNat xs.length with q | q
  · rw [Nat.min_eq_left q]
    exact List.take_of_length_le (by simp)
  · rw [Nat.min_eq_right q, List.drop_length, List.drop_of_length_le q]
    simp
theorem o_cutT {xs : List D} {lo hi : Option Int} : cutOf lo hi (.tup xs) = some (.tup (cutD xs lo hi)) := (rfl)
theorem o_cutL {xs : List D} {lo hi : Option Int} : cutOf lo hi (.lst xs) = some (.lst (cutD xs lo hi)) := (rfl)
theorem o_cutR {xs : List D} {lo hi : Option Int} : cutOf lo hi (.ro xs) = some (.lst (cutD xs lo hi)) := (rfl)
/-- each thing falls to one of the places -/
theorem sum_one {n : Nat} {v : Int} (h : 0 ≤ v ∧ v < n) : ((List.range n).map fun o : Nat => if v = (o : Int) then (1 : Int) else 0).sum = 1 := by
  induction n with
  | zero => omega
  | succ n ih =>
    rw [List.range_succ, List.map_append, List.sum_append]
    by_cases q : v = n
    · have : ((List.range n).map fun o : Nat => if v = (o : Int) then (1 : Int) else 0).sum = 0 := by
        have : ((List.range n).map fun o : Nat => if v = (o : Int) then (1 : Int) else 0) = (List.range n).map fun _ => (0 : Int) := by
          refine List.map_congr_left fun o ho => ?_
          have := List.mem_range.mp ho
          rw [if_neg (by omega)]
        rw [this]
        clear ih h q this
        induction List.range n with
        | nil => rfl
        | cons x r ih => simpa using ih
      rw [this]
      simp [q]
    · rw [ih (by omega)]
      simp
      omega
theorem sum_add {α : Type} (f g : α → Int) : ∀ xs : List α, (xs.map fun x => f x + g x).sum = (xs.map f).sum + (xs.map g).sum
  | [] => rfl
  | x :: r => by simp only [List.map_cons, List.sum_cons, sum_add f g r]; omega
theorem sum_parts {α : Type} {n : Nat} {f : α → Int} : ∀ {xs : List α}, (∀ x ∈ xs, 0 ≤ f x ∧ f x < n) → ((List.range n).map fun o : Nat => ((xs.filter fun x => decide (f x = (o : Int))).length : Int)).sum = xs.length
  | [], _ => by
    simp only [List.filter_nil, List.length_nil]
    induction List.range n with
    | nil => rfl
    | cons x r ih => simpa using ih
  | x :: r, h => by
    have ih := sum_parts (xs := r) (n := n) (f := f) fun y hy => h y (by simp [hy])
    have e : ((List.range n).map fun o : Nat => (((x :: r).filter fun x => decide (f x = (o : Int))).length : Int)) = (List.range n).map fun o : Nat => (if f x = (o : Int) then (1 : Int) else 0) + ((r.filter fun x => decide (f x = (o : Int))).length : Int) := by
      refine List.map_congr_left fun o _ => ?_
      rw [List.filter_cons]
      by_cases q : f x = (o : Int)
      · simp [q]; omega
      · simp [q]
    rw [e, sum_add, ih, sum_one (h x (by simp))]
    simp; omega
theorem o_inSS {i j : Str} : gIn [.str i, .str j] = some (.bl (strIn i j)) := (rfl)
theorem o_ninSS {i j : Str} : gNotIn [.str i, .str j] = some (.bl (!strIn i j)) := (rfl)
theorem o_ixs {s : Str} {i : Int} {K : D → Prop} : wpo (gIdx [.str s, .int i]) K = (s.length ≤ 16000000 ∧ wpo (atI s.cps.toList i) fun c => K (.str ⟨#[c]⟩)) := by
  show wpo (if s.length ≤ 16000000 then (atI s.cps.toList i).map _ else none) K = _
  by_cases h : s.length ≤ 16000000
  · rw [if_pos h, wpo_map]; simp [h]
  · rw [if_neg h]; simp [h, wpo_none]
theorem w_str {f : AE} {s : AS} {Q : D → AS → Prop} : wp (fStr f s) Q = wp (f s) fun d s1 => wpo (match d with | .str i => some i | _ => none) fun i => Q (.str i) s1 := by
  unfold fStr
  cases f s with
  | ok d s1 => cases d <;> rfl
  | ex x s1 => rfl
  | no => rfl
theorem o_join {α : Type} {f : α → Str} {a : Str} {xs : List α} {K : D → Prop} : wpo (gJoin [.str a, .lst (xs.map fun x => D.str (f x))]) K = (((xs.map f).map (·.length)).sum + (xs.map f).length * a.length ≤ 16777216 ∧ K (.str (Txt.join a (xs.map f)))) := by
  have e : (xs.map fun x => D.str (f x)) = (xs.map f).map D.str := by rw [List.map_map]; rfl
  rw [e]
  unfold gJoin
  simp only [D.items, Option.bind_some, strsOf_map]
  exact wpo_ite
/-- a text of one sign -/
def sg (c : Nat) : Str := ⟨#[c]⟩
theorem signsD_eq {s : Str} : signsD s = s.cps.toList.map fun c => D.str (sg c) := (rfl)
theorem str_ext {a b : Str} (h : a.cps.toList = b.cps.toList) : a = b := by
  cases a; cases b
  congr 1
  exact Array.toList_inj.mp h
theorem str_app {a b : Str} : (a ++ b).cps.toList = a.cps.toList ++ b.cps.toList := by
  show (a.cps ++ b.cps).toList = _
  simp
theorem str_len {a : Str} : a.length = a.cps.toList.length := by
  show a.cps.size = _
  simp
theorem join_sg {a : Str} (h : a.cps.toList = []) : ∀ cs : List Nat, (Txt.join a (cs.map sg)).cps.toList = cs
  | [] => rfl
  | [c] => rfl
  | c :: d :: r => by
    have ih := join_sg h (d :: r)
    have e1 : ∀ xs, Txt.join a xs = Str.join a xs := fun xs => StrLaws.glued_eq_join a xs
    rw [e1] at ih ⊢
    show (sg c ++ a ++ Str.join a ((d :: r).map sg)).cps.toList = _
    rw [str_app, str_app, h, ih]
    rfl
theorem emod_bd (a : Int) {b : Int} (h : 0 < b) : 0 ≤ a % b ∧ a % b < b := ⟨Int.emod_nonneg _ (by omega), Int.emod_lt_of_pos _ h⟩
theorem zipD_map {α β : Type} {f : α → D} {g : β → D} : ∀ {xs : List α} {ys : List β}, zipD (xs.map f) (ys.map g) = (xs.zip ys).map fun p => .tup [f p.1, g p.2]
  | [], _ => by simp [zipD]
  | _ :: _, [] => by simp [zipD]
  | x :: xs, y :: ys => by simp [zipD, zipD_map (xs := xs) (ys := ys)]
end PV
/-! PL 6: sums and bests of lists and tuples; what may be None -/
namespace PV
open PySem PySem.Spec PyProof.Rows L2
theorem o_sumAI {xs : List Int} : gSumA [.lst (xs.map D.int)] = some (.int xs.sum) := by
  unfold gSumA
  simp only [D.items, Option.bind_some, intsOf_map, Option.map_some]
theorem o_sumAM {α : Type} {f : α → Int} {xs : List α} : gSumA [.lst (xs.map fun x => D.int (f x))] = some (.int (xs.map f).sum) := by
  have e : (xs.map fun x => D.int (f x)) = (xs.map f).map D.int := by rw [List.map_map]; rfl
  rw [e, o_sumAI]
theorem o_sumAt {xs : List Int} : gSumA [.tup (xs.map D.int)] = some (.int xs.sum) := by
  unfold gSumA
  simp only [D.items, Option.bind_some, intsOf_map, Option.map_some]
theorem o_sumAt2 {a b : Int} : gSumA [.tup [.int a, .int b]] = some (.int (a + b)) := by
  have := o_sumAt (xs := [a, b])
  simpa using this
theorem o_maxA2 {i j : Int} : gMaxA [.int i, .int j] = some (.int (if j > i then j else i)) := (rfl)
theorem o_minA2 {i j : Int} : gMinA [.int i, .int j] = some (.int (if j < i then j else i)) := (rfl)
theorem o_maxAI {xs : List Int} : gMaxA [.lst (xs.map D.int)] = (maxI xs).map .int := by
  unfold gMaxA
  simp only [D.items, Option.bind_some, intsOf_map]
theorem o_minAI {xs : List Int} : gMinA [.lst (xs.map D.int)] = (minI xs).map .int := by
  unfold gMinA
  simp only [D.items, Option.bind_some, intsOf_map]
theorem o_maxAt {xs : List Int} : gMaxA [.tup (xs.map D.int)] = (maxI xs).map .int := by
  unfold gMaxA
  simp only [D.items, Option.bind_some, intsOf_map]
theorem o_minAt {xs : List Int} : gMinA [.tup (xs.map D.int)] = (minI xs).map .int := by
  unfold gMinA
  simp only [D.items, Option.bind_some, intsOf_map]
/-- an int or None -/
def oD : Option Int → D
  | none => .non
  | some i => .int i
theorem oD_non {o : Option Int} : (oD o).isNon = o.isNone := by cases o <;> rfl
theorem oD_some {i : Int} : oD (some i) = .int i := (rfl)
theorem oD_none : oD none = .non := (rfl)
theorem o_notO {o : Option Int} : gNotN [oD o, .non] = some (.bl (!o.isNone)) := by rw [o_notn, oD_non]
theorem ixL_oD {xs : List (Option Int)} {i : Int} (h0 : 0 ≤ i) (h1 : i < xs.length) : ixL (xs.map oD) i = some (oD (xs.getD i.toNat none)) := by
  rw [ixL_nn h0 (by simpa using h1), List.getElem?_map]
  have : i.toNat < xs.length := by omega
  rw [List.getElem?_eq_getElem this, List.getD_eq_getElem?_getD, List.getElem?_eq_getElem this]
  rfl
theorem rgNeg {s : Int} (h0 : 0 ≤ s) (h1 : s ≤ 16000000) : gTRg3 [.int s, .int 0, .int (-1)] = some (.tup ((List.range s.toNat).map fun m : Nat => .int (s - m))) := by
  have rg := RgC.neg (i := s) (j := 0) (by omega) (by omega) (by omega) (by omega)
  obtain ⟨c0, c1, c2, c3⟩ := rg
  rw [Int.sub_zero] at c3
  show (if _ then _ else _) = _
  rw [c3, if_pos ⟨c0, c1, c2, by omega, by omega⟩]
  rw [Int.toNat_natCast]
  congr 2
  refine List.map_congr_left fun m _ => ?_
  congr 1
  omega
theorem pys_any {x : D} {d : PyData} (hx : x.py = some d) : ∀ {ys : List D} {ps : List PyData}, D.pys ys = some ps → (ps.any fun z => PyData.eqv z d) = ys.any fun y => eqD y x
  | [], _, h => by cases h; rfl
  | y :: r, ps, h => by
    simp only [D.pys] at h
    split at h
    · rename_i p qs e1 e2
      cases h
      rw [List.any_cons, List.any_cons, pys_any hx e2]
      congr 1
      unfold eqD
      rw [e1, hx]
    · cases h
theorem inB_tup {xs ys : List D} (h1 : okE 64 (.tup xs) = true) (h2 : okEs 63 ys = true) : inB (.tup xs) (.lst ys) = some (ys.any fun y => eqD y (.tup xs)) := by
  obtain ⟨p, e1, c1, d1⟩ := okE_py h1
  obtain ⟨ps, e2, c2, d2⟩ := okEs_py h2
  unfold inB
  simp only [D.flat?]
  rw [e1]
  have e3 : (D.lst ys).py = some (.list ps) := by simp [D.py, e2]
  rw [e3]
  simp only
  rw [if_pos, pys_any e1 e2]
  unfold SeqAt.shaped
  simp only [Bool.and_eq_true, decide_eq_true_eq]
  exact ⟨⟨c1, d1⟩, by simpa [PyData.canLay0] using c2, by simp only [PyData.depth]; omega⟩
theorem o_inT {xs ys : List D} (h1 : okE 64 (.tup xs) = true) (h2 : okEs 63 ys = true) : gIn [.tup xs, .lst ys] = some (.bl (ys.any fun y => eqD y (.tup xs))) := by
  show (inB _ _).map D.bl = _
  rw [inB_tup h1 h2]; rfl
theorem o_ninT {xs ys : List D} (h1 : okE 64 (.tup xs) = true) (h2 : okEs 63 ys = true) : gNotIn [.tup xs, .lst ys] = some (.bl (!ys.any fun y => eqD y (.tup xs))) := by
  show (inB _ _).map (fun b => D.bl (!b)) = _
  rw [inB_tup h1 h2]; rfl
theorem o_intb {b : Bool} : gInt [.bl b] = some (.int (if b = true then 1 else 0)) := (rfl)
theorem ixL_mapN {ns : List Int} {i : Int} (h0 : i < 0) (h1 : -(ns.length : Int) ≤ i) : ixL (ns.map D.int) i = some (.int (ns.getD (ns.length + i).toNat 0)) := by
  rw [ixL_neg h0 (by simpa using h1), List.getElem?_map, List.length_map]
  have : (ns.length + i).toNat < ns.length := by omega
  rw [List.getElem?_eq_getElem this, List.getD_eq_getElem?_getD, List.getElem?_eq_getElem this]
  rfl
theorem filter_range {p : Nat → Bool} {a b : Nat} (h : a ≤ b) (hp : ∀ i, a ≤ i → i < b → p i = false) : (List.range b).filter p = (List.range a).filter p := by
  obtain ⟨c, rfl⟩ := Nat.exists_eq_add_of_le h
  clear h
  induction c with
  | zero => rfl
  | succ c ih =>
    rw [← Nat.add_assoc, List.range_succ, List.filter_append, ih fun i h1 h2 => hp i h1 (by omega)]
    simp [hp (a + c) (by omega) (by omega)]
end PV
/-! PL 7: min, max, sorted of plain data; dicts written out -/
namespace PV
open PySem PySem.Spec PyProof.Rows L2
open PySem.W (dataLt AlikeAll)
theorem o_minB2 {i j : Int} : gMinB [.int i, .int j] = some (.int (if j < i then j else i)) := by unfold gMinB; rw [o_minA2]
theorem o_maxB2 {i j : Int} : gMaxB [.int i, .int j] = some (.int (if j > i then j else i)) := by unfold gMaxB; rw [o_maxA2]
theorem minI_c {x : Int} {xs : List Int} : ∃ m, minI (x :: xs) = some m := ⟨_, rfl⟩
theorem maxI_c {x : Int} {xs : List Int} : ∃ m, maxI (x :: xs) = some m := ⟨_, rfl⟩
theorem o_minBI {xs : List Int} : gMinB [.lst (xs.map D.int)] = (minI xs).map .int := by
  unfold gMinB
  rw [o_minAI]
  cases xs with
  | nil => rfl
  | cons x xs => obtain ⟨m, e⟩ := minI_c (x := x) (xs := xs); rw [e]; rfl
theorem o_maxBI {xs : List Int} : gMaxB [.lst (xs.map D.int)] = (maxI xs).map .int := by
  unfold gMaxB
  rw [o_maxAI]
  cases xs with
  | nil => rfl
  | cons x xs => obtain ⟨m, e⟩ := maxI_c (x := x) (xs := xs); rw [e]; rfl
theorem o_minBt {xs : List Int} : gMinB [.tup (xs.map D.int)] = (minI xs).map .int := by
  unfold gMinB
  rw [o_minAt]
  cases xs with
  | nil => rfl
  | cons x xs => obtain ⟨m, e⟩ := minI_c (x := x) (xs := xs); rw [e]; rfl
theorem o_maxBt {xs : List Int} : gMaxB [.tup (xs.map D.int)] = (maxI xs).map .int := by
  unfold gMaxB
  rw [o_maxAt]
  cases xs with
  | nil => rfl
  | cons x xs => obtain ⟨m, e⟩ := maxI_c (x := x) (xs := xs); rw [e]; rfl
theorem o_sortBI {ns : List Int} : gSortB [.lst (ns.map D.int)] = some (.lst ((srt ns).map D.int)) := by unfold gSortB; rw [o_sortI]
theorem o_sortBIt {ns : List Int} : gSortB [.tup (ns.map D.int)] = some (.lst ((srt ns).map D.int)) := by unfold gSortB; rw [o_sortIt]
theorem gSortB_of {ds : List D} {d : D} (h : gSorted ds = some d) : gSortB ds = some d := by unfold gSortB; rw [h]
/-! data -/
theorem pys_maps {α : Type} {f : α → D} {g : α → PyData} (h : ∀ a, (f a).py = some (g a)) : ∀ xs : List α, D.pys (xs.map f) = some (xs.map g)
  | [] => rfl
  | x :: xs => by rw [List.map_cons]; simp only [D.pys, h, pys_maps h xs]; rfl
theorem pyd_of {d : D} {p : PyData} (h : d.py = some p) : pyd d = p := by unfold pyd; rw [h]; rfl
theorem depthAll_le {k : Nat} : ∀ {ps : List PyData}, (∀ p ∈ ps, p.depth ≤ k) → PyData.depthAll ps ≤ k
  | [], _ => by simp [PyData.depthAll]
  | p :: ps, h => by
    have h1 := h p (by simp)
    have h2 := depthAll_le (ps := ps) (k := k) fun q hq => h q (by simp [hq])
    simp only [PyData.depthAll]
    omega
theorem cmpD_map {α : Type} {f : α → D} {g : α → PyData} {xs : List α} (h : ∀ a, (f a).py = some (g a)) (al : ∀ a ∈ xs, ∀ b ∈ xs, PySem.W.alike (g a) (g b) = true) (ne : ∀ a, g a ≠ .none) (dp : ∀ a ∈ xs, (g a).depth ≤ 60) : CmpD (xs.map f) := by
  have e : (xs.map f).map pyd = xs.map g := by rw [List.map_map]; exact List.map_congr_left fun a _ => pyd_of (h a)
  refine ⟨⟨_, pys_maps h xs⟩, ?_, ?_⟩
  · rw [e]
    refine ⟨fun p hp q hq => ?_, fun p hp => ?_⟩
    · obtain ⟨a, ha, rfl⟩ := List.mem_map.mp hp
      obtain ⟨b, hb, rfl⟩ := List.mem_map.mp hq
      exact al a ha b hb
    · obtain ⟨a, ha, rfl⟩ := List.mem_map.mp hp
      exact ne a
  · rw [e]
    refine depthAll_le fun p hp => ?_
    obtain ⟨a, ha, rfl⟩ := List.mem_map.mp hp
    exact dp a ha
theorem srtD_map {α : Type} {f : α → D} {g : α → PyData} {xs : List α} (h : ∀ a, (f a).py = some (g a)) (al : ∀ a ∈ xs, ∀ b ∈ xs, PySem.W.alike (g a) (g b) = true) (so : (∀ a, ∃ x r, g a = .tuple (x :: r)) ∨ ∀ a, g a ≠ .none ∧ ∀ ys, g a ≠ .tuple ys) (dp : ∀ a ∈ xs, (g a).depth ≤ 60) (hl : xs.length ≤ 16000000) : SrtD (xs.map f) := by
  have e : (xs.map f).map pyd = xs.map g := by rw [List.map_map]; exact List.map_congr_left fun a _ => pyd_of (h a)
  refine ⟨⟨⟨_, pys_maps h xs⟩, ?_, ?_, fun d hd => ?_⟩, by rw [List.length_map]; exact hl⟩
  · rw [e]
    intro p hp q hq
    obtain ⟨a, ha, rfl⟩ := List.mem_map.mp hp
    obtain ⟨b, hb, rfl⟩ := List.mem_map.mp hq
    exact al a ha b hb
  · rw [e]
    rcases so with so | so
    · exact .inl fun p hp => by
        obtain ⟨a, ha, rfl⟩ := List.mem_map.mp hp
        exact so a
    · exact .inr fun p hp => by
        obtain ⟨a, ha, rfl⟩ := List.mem_map.mp hp
        exact so a
  · obtain ⟨a, ha, rfl⟩ := List.mem_map.mp hd
    rw [pyd_of (h a)]
    exact dp a ha
theorem minG_map {α : Type} {f : α → D} {lt : α → α → Bool} (h : ∀ a b, ltD (f a) (f b) = lt a b) (x : α) : ∀ (xs : List α), minG (f x) (xs.map f) = f (xs.foldl (fun a y => if lt y a = true then y else a) x) := by
  intro xs
  unfold minG
  induction xs generalizing x with
  | nil => rfl
  | cons y r ih =>
    rw [List.map_cons, List.foldl_cons, List.foldl_cons, h]
    cases lt y x
    · exact ih x
    · exact ih y
theorem maxG_map {α : Type} {f : α → D} {lt : α → α → Bool} (h : ∀ a b, ltD (f a) (f b) = lt a b) (x : α) : ∀ (xs : List α), maxG (f x) (xs.map f) = f (xs.foldl (fun a y => if lt a y = true then y else a) x) := by
  intro xs
  unfold maxG
  induction xs generalizing x with
  | nil => rfl
  | cons y r ih =>
    rw [List.map_cons, List.foldl_cons, List.foldl_cons, h]
    cases lt x y
    · exact ih x
    · exact ih y
theorem gMinB_D {x : D} {xs : List D} (h0 : gMinA [.lst (x :: xs)] = none) (hc : CmpD (x :: xs)) : gMinB [.lst (x :: xs)] = some (minG x xs) := by
  unfold gMinB
  rw [h0]
  simp only [D.items]
  rw [if_pos hc]
theorem gMaxB_D {x : D} {xs : List D} (h0 : gMaxA [.lst (x :: xs)] = none) (hc : CmpD (x :: xs)) : gMaxB [.lst (x :: xs)] = some (maxG x xs) := by
  unfold gMaxB
  rw [h0]
  simp only [D.items]
  rw [if_pos hc]
theorem gSortB_D {xs : List D} (h0 : gSorted [.lst xs] = none) (hc : SrtD xs) : gSortB [.lst xs] = some (.lst (xs.mergeSort leD)) := by
  unfold gSortB
  rw [h0]
  simp only [D.items?, Option.bind_some]
  rw [if_pos hc]
theorem noInts_t {ts : List D} {r : List D} : intsOf (.tup ts :: r) = none := rfl
theorem noInts_s {s : Str} {r : List D} : intsOf (.str s :: r) = none := rfl
theorem minA_none {x : D} {xs : List D} (h : intsOf (x :: xs) = none) : gMinA [.lst (x :: xs)] = none := by
  unfold gMinA
  simp only [D.items, Option.bind_some, h, Option.bind_none]
theorem maxA_none {x : D} {xs : List D} (h : intsOf (x :: xs) = none) : gMaxA [.lst (x :: xs)] = none := by
  unfold gMaxA
  simp only [D.items, Option.bind_some, h, Option.bind_none]
theorem sort_none {xs : List D} (h : intsOf xs = none) : gSorted [.lst xs] = none := by
  unfold gSorted
  simp only [D.items, Option.bind_some, h, Option.map_none]
/-! pairs of ints -/
def e2 (p : Int × Int) : D := .tup [.int p.1, .int p.2]
def lt2 (p q : Int × Int) : Bool := decide (p.1 < q.1 ∨ (p.1 = q.1 ∧ p.2 < q.2))
theorem py_e2 (p : Int × Int) : (e2 p).py = some (.tuple [.int p.1, .int p.2]) := rfl
theorem lt_e2 (p q : Int × Int) : ltD (e2 p) (e2 q) = lt2 p q := by
  unfold ltD
  rw [pyd_of (py_e2 p), pyd_of (py_e2 q), PySem.W.dataLt_ii]
  rfl
theorem min_e2 {x : Int × Int} {xs : List (Int × Int)} : gMinB [.lst ((x :: xs).map e2)] = some (e2 (xs.foldl (fun a y => if lt2 y a = true then y else a) x)) := by
  rw [List.map_cons, gMinB_D (x := e2 x) (minA_none (show intsOf (e2 x :: xs.map e2) = none from rfl)) ?_, minG_map lt_e2]
  rw [← List.map_cons]
  exact cmpD_map py_e2 (fun a _ b _ => by simp [PySem.W.alike, PySem.W.alikeAll]) (fun a z => nomatch z) (fun a _ => by simp [PyData.depth, PyData.depthAll])
/-- {k: v} -/
theorem o_dict1i {i : Int} {d : D} : gDict1 [.int i, d] = some (.dic false [(.int i, d)]) := (rfl)
theorem o_dict1s {i : Str} {d : D} : gDict1 [.str i, d] = some (.dic false [(.str i, d)]) := (rfl)
theorem o_dicK : gDicK [] = some (.dic false []) := (rfl)
theorem o_dicT : gDicT [] = some (.dic true []) := (rfl)
theorem nk_dt {t : Bool} {kvs : List (D × D)} : normK (.dic t kvs) true = 1 := (rfl)
theorem nk_df {t : Bool} {kvs : List (D × D)} : normK (.dic t kvs) false = 0 := (rfl)
theorem d_mut_dic {t : Bool} {kvs : List (D × D)} : (D.dic t kvs).mut = true := (rfl)
theorem o_is_td {T : Ty8} {t : Bool} {kvs : List (D × D)} : gIs8 T [.dic t kvs] = some (.bl (match T with | .dict => true | _ => false)) := by cases T <;> rfl
theorem in_dic {t : Bool} {kvs : List (D × D)} : D.isNon (.dic t kvs) = false := (rfl)
end PV
/-! PL 8: repr tells what it shows -/
namespace PV
open PySem PySem.Spec PyProof.Rows L2
/-- the signs of a repr -/
def cs (p : PyData) : List Nat := p.shown.cps.toList
/-- a text whose repr is itself between quotes -/
def sgd (x : Str) : Prop := (reprText x).cps.toList = 39 :: (x.cps.toList ++ [39]) ∧ 39 ∉ x.cps.toList
mutual
def gd : PyData → Prop
  | .none => True
  | .bool _ => True
  | .int _ => True
  | .str x => sgd x
  | .list xs => gds xs
  | .tuple xs => gds xs
  | .dict kvs => gdk kvs
def gds : List PyData → Prop
  | [] => True
  | x :: r => gd x ∧ gds r
def gdk : List (PyData × PyData) → Prop
  | [] => True
  | (k, v) :: r => gd k ∧ gd v ∧ gdk r
end
/-- parts with commas between them -/
def its : List (List Nat) → List Nat
  | [] => []
  | [x] => x
  | x :: y :: r => x ++ (44 :: 32 :: its (y :: r))
theorem join_its : ∀ ts : List Str, (Str.join ", " ts).cps.toList = its (ts.map fun t => t.cps.toList)
  | [] => rfl
  | [x] => rfl
  | x :: y :: r => by
    have ih := join_its (y :: r)
    show (x ++ ", " ++ Str.join ", " (y :: r)).cps.toList = _
    rw [str_app, str_app, ih]
    show x.cps.toList ++ [44, 32] ++ _ = _
    rw [List.append_assoc]
    rfl
theorem cs_none : cs .none = [78, 111, 110, 101] := by unfold cs; simp only [PyData.shown]; decide +kernel
theorem cs_t : cs (.bool true) = [84, 114, 117, 101] := by unfold cs; simp only [PyData.shown]; decide +kernel
theorem cs_f : cs (.bool false) = [70, 97, 108, 115, 101] := by unfold cs; simp only [PyData.shown]; decide +kernel
theorem cs_str {x : Str} (h : sgd x) : cs (.str x) = 39 :: (x.cps.toList ++ [39]) := by unfold cs; simp only [PyData.shown]; exact h.1
theorem shownAll_map : ∀ xs : List PyData, (PyData.shownAll xs).map (fun t => t.cps.toList) = xs.map cs
  | [] => by simp only [PyData.shownAll]; rfl
  | x :: xs => by simp only [PyData.shownAll]; rw [List.map_cons, List.map_cons, shownAll_map xs]; rfl
theorem shownAll_len : ∀ xs : List PyData, (PyData.shownAll xs).length = xs.length
  | [] => by simp only [PyData.shownAll]; rfl
  | x :: xs => by simp only [PyData.shownAll]; rw [List.length_cons, List.length_cons, shownAll_len xs]
theorem cs_list (xs : List PyData) : cs (.list xs) = 91 :: (its (xs.map cs) ++ [93]) := by
  unfold cs; simp only [PyData.shown]
  rw [listText_eq_join, str_app, str_app, join_its, shownAll_map]
  rfl
theorem cs_tuple (xs : List PyData) : cs (.tuple xs) = 40 :: (its (xs.map cs) ++ (if xs.length = 1 then [44, 41] else [41])) := by
  unfold cs; simp only [PyData.shown]
  unfold tupleText
  rw [str_app, str_app, join_its, shownAll_map, shownAll_len]
  by_cases h : xs.length = 1
  · have : (xs.length == 1) = true := by simp [h]
    rw [this, if_pos h]; rfl
  · have : (xs.length == 1) = false := by simp [h]
    rw [this, if_neg h]; rfl
def csk (kv : PyData × PyData) : List Nat := cs kv.1 ++ (58 :: 32 :: cs kv.2)
theorem shownKv_map : ∀ kvs : List (PyData × PyData), (PyData.shownKv kvs).map (fun t => t.cps.toList) = kvs.map csk
  | [] => by simp only [PyData.shownKv]; rfl
  | (k, v) :: r => by
    simp only [PyData.shownKv]
    rw [List.map_cons, List.map_cons, shownKv_map r, str_app, str_app]
    congr 1
    show _ ++ [58, 32] ++ _ = _
    rw [List.append_assoc]; rfl
theorem cs_dict (kvs : List (PyData × PyData)) : cs (.dict kvs) = 123 :: (its (kvs.map csk) ++ [125]) := by
  unfold cs; simp only [PyData.shown]
  unfold dictText
  rw [str_app, str_app, join_its, shownKv_map]
  rfl
/-! ints -/
def isD (c : Nat) : Bool := (decide (48 ≤ c) && decide (c ≤ 57)) || decide (c = 45)
theorem nat_digits (n : Nat) : ∀ c ∈ (toString n).toList, 48 ≤ c.toNat ∧ c.toNat ≤ 57 := by
  intro c hc
  rw [Nat.toString_eq_repr, Nat.toList_repr] at hc
  have := Nat.isDigit_of_mem_toDigits (by decide) (by decide) hc
  simp only [Char.isDigit, Bool.and_eq_true, decide_eq_true_eq] at this
  obtain ⟨h1, h2⟩ := this
  constructor
  · exact UInt32.le_iff_toNat_le.mp h1
  · exact UInt32.le_iff_toNat_le.mp h2
theorem cs_int (i : Int) : cs (.int i) = (toString i).toList.map Char.toNat := by
  unfold cs; simp only [PyData.shown]
  show (Str.ofString (toString i)).cps.toList = _
  rw [Str.ofString_eq_toList]
theorem int_chars (i : Int) : ∀ c ∈ cs (.int i), isD c = true := by
  intro c hc
  rw [cs_int] at hc
  obtain ⟨ch, hm, rfl⟩ := List.mem_map.mp hc
  unfold isD
  rcases i with n | n
  · have hm : ch ∈ (toString n).toList := hm
    have := nat_digits n ch hm
    simp [this.1, this.2]
  · have e : toString (Int.negSucc n) = "-" ++ toString (n + 1) := rfl
    rw [e, String.toList_append] at hm
    rcases List.mem_append.mp hm with q | q
    · have : ch = '-' := by simpa using q
      subst this; decide
    · have := nat_digits (n + 1) ch q
      simp [this.1, this.2]
theorem int_ne (i : Int) : cs (.int i) ≠ [] := by
  rw [cs_int]
  intro h
  have h : (toString i).toList = [] := List.map_eq_nil_iff.mp h
  rcases i with n | n
  · have h : (toString n).toList = [] := h
    rw [Nat.toString_eq_repr, Nat.toList_repr] at h
    have := Nat.length_toDigits_pos (b := 10) (n := n)
    rw [h] at this
    simp at this
  · have e : toString (Int.negSucc n) = "-" ++ toString (n + 1) := rfl
    rw [e, String.toList_append] at h
    simp at h
theorem char_inj : ∀ {a b : List Char}, a.map Char.toNat = b.map Char.toNat → a = b
  | [], [], _ => rfl
  | [], _ :: _, h => by simp at h
  | _ :: _, [], h => by simp at h
  | x :: a, y :: b, h => by
    rw [List.map_cons, List.map_cons] at h
    injection h with h1 h2
    rw [Char.toNat_inj.mp h1, char_inj h2]
theorem int_inj {i j : Int} (h : cs (.int i) = cs (.int j)) : i = j := by
  rw [cs_int, cs_int] at h
  have := char_inj h
  have := String.toList_inj.mp this
  exact Int.repr_inj.mp this
/-- the first of a kind of signs -/
theorem span_eq {P : Nat → Bool} : ∀ {a b r s : List Nat}, (∀ c ∈ a, P c = true) → (∀ c ∈ b, P c = true) → (∀ c, r.head? = some c → P c = false) → (∀ c, s.head? = some c → P c = false) → a ++ r = b ++ s → a = b ∧ r = s
  | [], [], r, s, _, _, _, _, h => ⟨rfl, h⟩
  | [], y :: b, r, s, _, hb, hr, _, h => by
    have := hr y (by rw [show r = y :: (b ++ s) from h]; rfl)
    rw [hb y (by simp)] at this; cases this
  | x :: a, [], r, s, ha, _, _, hs, h => by
    have := hs x (by rw [show s = x :: (a ++ r) from h.symm]; rfl)
    rw [ha x (by simp)] at this; cases this
  | x :: a, y :: b, r, s, ha, hb, hr, hs, h => by
    injection h with h1 h2
    obtain ⟨e1, e2⟩ := span_eq (a := a) (b := b) (fun c hc => ha c (by simp [hc])) (fun c hc => hb c (by simp [hc])) hr hs h2
    exact ⟨by rw [h1, e1], e2⟩
/-- what may stand behind a value: nothing, or , ) ] : } -/
def Dl (r : List Nat) : Prop := ∀ c, r.head? = some c → c = 44 ∨ c = 41 ∨ c = 93 ∨ c = 58 ∨ c = 125
theorem Dl.nil : Dl [] := fun c h => by simp at h
theorem Dl.c {x : Nat} {r : List Nat} (h : x = 44 ∨ x = 41 ∨ x = 93 ∨ x = 58 ∨ x = 125) : Dl (x :: r) := fun c e => by
  simp at e; subst e; exact h
/-- the first sign of a value -/
def kindOf : PyData → Nat
  | .none => 0
  | .bool true => 1
  | .bool false => 2
  | .int _ => 3
  | .str _ => 4
  | .list _ => 5
  | .tuple _ => 6
  | .dict _ => 7
def kindC (c : Nat) : Nat := if c = 78 then 0 else if c = 84 then 1 else if c = 70 then 2 else if c = 39 then 4 else if c = 91 then 5 else if c = 40 then 6 else if c = 123 then 7 else 3
theorem kind_int {c : Nat} (h : isD c = true) : kindC c = 3 := by
  unfold isD at h
  simp only [Bool.or_eq_true, Bool.and_eq_true, decide_eq_true_eq] at h
  unfold kindC
  rw [if_neg (by omega), if_neg (by omega), if_neg (by omega), if_neg (by omega), if_neg (by omega), if_neg (by omega), if_neg (by omega)]
theorem head_kind (p : PyData) (g : gd p) : ∃ c r, cs p = c :: r ∧ kindC c = kindOf p ∧ c ≠ 44 ∧ c ≠ 41 ∧ c ≠ 93 ∧ c ≠ 58 ∧ c ≠ 125 := by
  cases p with
  | none => rw [cs_none]; exact ⟨_, _, rfl, rfl, by decide, by decide, by decide, by decide, by decide⟩
  | bool b => cases b
              · rw [cs_f]; exact ⟨_, _, rfl, rfl, by decide, by decide, by decide, by decide, by decide⟩
              · rw [cs_t]; exact ⟨_, _, rfl, rfl, by decide, by decide, by decide, by decide, by decide⟩
  | int i =>
    have h1 := int_ne i
    have h2 := int_chars i
    rcases e : cs (.int i) with _ | ⟨c, r⟩
    · exact absurd e h1
    · rw [e] at h2
      have h3 := h2 c (by simp)
      refine ⟨c, r, rfl, kind_int h3, ?_⟩
      unfold isD at h3
      simp only [Bool.or_eq_true, Bool.and_eq_true, decide_eq_true_eq] at h3
      omega
  | str x => rw [cs_str (by simpa only [gd] using g)]; exact ⟨_, _, rfl, rfl, by decide, by decide, by decide, by decide, by decide⟩
  | list xs => rw [cs_list]; exact ⟨_, _, rfl, rfl, by decide, by decide, by decide, by decide, by decide⟩
  | tuple xs => rw [cs_tuple]; exact ⟨_, _, rfl, rfl, by decide, by decide, by decide, by decide, by decide⟩
  | dict kvs => rw [cs_dict]; exact ⟨_, _, rfl, rfl, by decide, by decide, by decide, by decide, by decide⟩
theorem kind_eq {p q : PyData} (gp : gd p) (gq : gd q) {r s : List Nat} (h : cs p ++ r = cs q ++ s) : kindOf p = kindOf q := by
  obtain ⟨c, t, e, k, _⟩ := head_kind p gp
  obtain ⟨c', t', e', k', _⟩ := head_kind q gq
  rw [e, e'] at h
  injection h with h1 _
  rw [← k, ← k', h1]
theorem its_cons {x : List Nat} {l : List (List Nat)} : its (x :: l) = x ++ (match l with | [] => [] | y :: r => 44 :: 32 :: its (y :: r)) := by
  cases l with
  | nil => simp [its]
  | cons y r => rfl
theorem ne_head {c d : Nat} {a b : List Nat} (h : c :: a = d :: b) (n : c ≠ d) : False := by injection h with h1 _; exact n h1
mutual
theorem cs_dec : ∀ (p q : PyData) {r s : List Nat}, gd p → gd q → Dl r → Dl s → cs p ++ r = cs q ++ s → p = q ∧ r = s
  | .none, q, r, s, gp, gq, _, _, h => by
    have k := kind_eq gp gq h
    cases q with
    | none => exact ⟨rfl, List.append_cancel_left h⟩
    | bool b => cases b <;> cases k
    | _ => cases k
  | .bool b, q, r, s, gp, gq, _, _, h => by
    have k := kind_eq gp gq h
    cases q with
    | bool b' => cases b <;> cases b' <;> first | (cases k; done) | exact ⟨rfl, List.append_cancel_left h⟩
    | _ => cases b <;> cases k
  | .int i, q, r, s, gp, gq, hr, hs, h => by
    have k := kind_eq gp gq h
    cases q with
    | int j =>
      have dn : ∀ {r : List Nat}, Dl r → ∀ c, r.head? = some c → isD c = false := fun hr c hc => by
        rcases hr c hc with rfl | rfl | rfl | rfl | rfl <;> decide
      obtain ⟨e1, e2⟩ := span_eq (int_chars i) (int_chars j) (dn hr) (dn hs) h
      exact ⟨by rw [int_inj e1], e2⟩
    | bool b => cases b <;> cases k
    | _ => cases k
  | .str x, q, r, s, gp, gq, _, _, h => by
    have k := kind_eq gp gq h
    cases q with
    | str y =>
      have gp : sgd x := by simpa only [gd] using gp
      have gq : sgd y := by simpa only [gd] using gq
      rw [cs_str gp, cs_str gq, List.cons_append, List.cons_append] at h
      injection h with _ h
      rw [List.append_assoc, List.append_assoc] at h
      obtain ⟨e1, e2⟩ := span_eq (P := fun c => decide (c ≠ 39)) (fun c hc => decide_eq_true fun z : c = 39 => gp.2 (z ▸ hc)) (fun c hc => decide_eq_true fun z : c = 39 => gq.2 (z ▸ hc)) (fun c hc => by simp at hc; simp [← hc]) (fun c hc => by simp at hc; simp [← hc]) h
      injection e2 with _ e2
      exact ⟨by rw [str_ext e1], e2⟩
    | bool b => cases b <;> cases k
    | _ => cases k
  | .list xs, q, r, s, gp, gq, _, _, h => by
    have k := kind_eq gp gq h
    cases q with
    | list ys =>
      rw [cs_list, cs_list, List.cons_append, List.cons_append] at h
      injection h with _ h
      rw [List.append_assoc, List.append_assoc] at h
      obtain ⟨e1, e2⟩ := its_dec xs ys (c := 93) (c' := 93) (t := r) (t' := s) (by simpa only [gd] using gp) (by simpa only [gd] using gq) (by simp) (by simp) h
      injection e2 with _ e2
      exact ⟨by rw [e1], e2⟩
    | bool b => cases b <;> cases k
    | _ => cases k
  | .tuple xs, q, r, s, gp, gq, _, _, h => by
    have k := kind_eq gp gq h
    cases q with
    | tuple ys =>
      rw [cs_tuple, cs_tuple, List.cons_append, List.cons_append] at h
      injection h with _ h
      rw [List.append_assoc, List.append_assoc] at h
      have gp : gds xs := by simpa only [gd] using gp
      have gq : gds ys := by simpa only [gd] using gq
      by_cases h1 : xs.length = 1
      · match xs, h1 with
        | [x], _ =>
          have gx : gd x := by simp only [gds] at gp; exact gp.1
          match ys, gq, h with
          | [], _, h =>
            obtain ⟨c, t, e, _, n1, n2, _⟩ := head_kind x gx
            rw [show its ([x].map cs) = cs x from rfl, e] at h
            exact (ne_head h n2).elim
          | [y], gq, h =>
            have gy : gd y := by simp only [gds] at gq; exact gq.1
            have h : cs x ++ (44 :: 41 :: r) = cs y ++ (44 :: 41 :: s) := h
            obtain ⟨e1, e2⟩ := cs_dec x y gx gy (Dl.c (.inl rfl)) (Dl.c (.inl rfl)) h
            injection e2 with _ e2
            injection e2 with _ e2
            exact ⟨by rw [e1], e2⟩
          | y :: z :: ys, gq, h =>
            have gy : gd y := by simp only [gds] at gq; exact gq.1
            have h : cs x ++ (44 :: 41 :: r) = cs y ++ (44 :: 32 :: its ((z :: ys).map cs)) ++ _ := h
            rw [List.append_assoc] at h
            obtain ⟨e1, e2⟩ := cs_dec x y gx gy (Dl.c (.inl rfl)) (Dl.c (.inl rfl)) h
            injection e2 with _ e2
            exact (ne_head e2 (by decide)).elim
      · rw [if_neg h1] at h
        by_cases h2 : ys.length = 1
        · match ys, h2 with
          | [y], _ =>
            have gy : gd y := by simp only [gds] at gq; exact gq.1
            match xs, gp, h1, h with
            | [], _, _, h =>
              obtain ⟨c, t, e, _, n1, n2, _⟩ := head_kind y gy
              rw [show its ([y].map cs) = cs y from rfl, e] at h
              exact (ne_head h.symm n2).elim
            | [x], _, h1, _ => exact absurd rfl h1
            | x :: z :: xs, gp, _, h =>
              have gx : gd x := by simp only [gds] at gp; exact gp.1
              have h : cs x ++ (44 :: 32 :: its ((z :: xs).map cs)) ++ _ = cs y ++ (44 :: 41 :: s) := h
              rw [List.append_assoc] at h
              obtain ⟨e1, e2⟩ := cs_dec x y gx gy (Dl.c (.inl rfl)) (Dl.c (.inl rfl)) h
              injection e2 with _ e2
              exact (ne_head e2 (by decide)).elim
        · rw [if_neg h2] at h
          obtain ⟨e1, e2⟩ := its_dec xs ys (c := 41) (c' := 41) (t := r) (t' := s) gp gq (by simp) (by simp) h
          injection e2 with _ e2
          exact ⟨by rw [e1], e2⟩
    | bool b => cases b <;> cases k
    | _ => cases k
  | .dict kvs, q, r, s, gp, gq, _, _, h => by
    have k := kind_eq gp gq h
    cases q with
    | dict ls =>
      rw [cs_dict, cs_dict, List.cons_append, List.cons_append] at h
      injection h with _ h
      rw [List.append_assoc, List.append_assoc] at h
      obtain ⟨e1, e2⟩ := itk_dec kvs ls (t := r) (t' := s) (by simpa only [gd] using gp) (by simpa only [gd] using gq) h
      injection e2 with _ e2
      exact ⟨by rw [e1], e2⟩
    | bool b => cases b <;> cases k
    | _ => cases k
theorem its_dec : ∀ (xs ys : List PyData) {c c' : Nat} {t t' : List Nat}, gds xs → gds ys → (c = 93 ∨ c = 41) → (c' = 93 ∨ c' = 41) → its (xs.map cs) ++ (c :: t) = its (ys.map cs) ++ (c' :: t') → xs = ys ∧ (c :: t) = (c' :: t')
  | [], [], _, _, _, _, _, _, _, _, h => ⟨rfl, h⟩
  | [], y :: ys, _, _, _, _, _, gq, hc, _, h => by
    simp only [gds] at gq
    obtain ⟨d, u, e, _, n1, n2, n3, _⟩ := head_kind y gq.1
    rw [List.map_cons, its_cons, e] at h
    exact (ne_head (show _ :: _ = d :: _ from h) (by omega)).elim
  | x :: xs, [], _, _, _, _, gp, _, _, hc, h => by
    simp only [gds] at gp
    obtain ⟨d, u, e, _, n1, n2, n3, _⟩ := head_kind x gp.1
    rw [List.map_cons, its_cons, e] at h
    exact (ne_head (show d :: _ = _ :: _ from h) (by omega)).elim
  | [x], [y], c, c', t, t', gp, gq, hc, hc', h => by
    simp only [gds] at gp gq
    have h : cs x ++ (c :: t) = cs y ++ (c' :: t') := h
    obtain ⟨e1, e2⟩ := cs_dec x y gp.1 gq.1 (Dl.c (by omega)) (Dl.c (by omega)) h
    exact ⟨by rw [e1], e2⟩
  | [x], y :: z :: ys, c, c', t, t', gp, gq, hc, hc', h => by
    simp only [gds] at gp gq
    have h : cs x ++ (c :: t) = cs y ++ (44 :: 32 :: its ((z :: ys).map cs)) ++ _ := h
    rw [List.append_assoc] at h
    obtain ⟨e1, e2⟩ := cs_dec x y gp.1 gq.1 (Dl.c (by omega)) (Dl.c (.inl rfl)) h
    exact (ne_head e2 (by omega)).elim
  | x :: z :: xs, [y], c, c', t, t', gp, gq, hc, hc', h => by
    simp only [gds] at gp gq
    have h : cs x ++ (44 :: 32 :: its ((z :: xs).map cs)) ++ _ = cs y ++ (c' :: t') := h
    rw [List.append_assoc] at h
    obtain ⟨e1, e2⟩ := cs_dec x y gp.1 gq.1 (Dl.c (.inl rfl)) (Dl.c (by omega)) h
    exact (ne_head e2 (by omega)).elim
  | x :: z :: xs, y :: w :: ys, c, c', t, t', gp, gq, hc, hc', h => by
    have gx : gd x := by simp only [gds] at gp; exact gp.1
    have gy : gd y := by simp only [gds] at gq; exact gq.1
    have gxs : gds (z :: xs) := by simp only [gds] at gp ⊢; exact gp.2
    have gys : gds (w :: ys) := by simp only [gds] at gq ⊢; exact gq.2
    have h : cs x ++ (44 :: 32 :: its ((z :: xs).map cs)) ++ (c :: t) = cs y ++ (44 :: 32 :: its ((w :: ys).map cs)) ++ (c' :: t') := h
    rw [List.append_assoc, List.append_assoc] at h
    obtain ⟨e1, e2⟩ := cs_dec x y gx gy (Dl.c (.inl rfl)) (Dl.c (.inl rfl)) h
    injection e2 with _ e2
    injection e2 with _ e2
    obtain ⟨e3, e4⟩ := its_dec (z :: xs) (w :: ys) gxs gys hc hc' e2
    exact ⟨by rw [e1, e3], e4⟩
theorem itk_dec : ∀ (xs ys : List (PyData × PyData)) {t t' : List Nat}, gdk xs → gdk ys → its (xs.map csk) ++ (125 :: t) = its (ys.map csk) ++ (125 :: t') → xs = ys ∧ (125 :: t) = (125 :: t')
  | [], [], _, _, _, _, h => ⟨rfl, h⟩
  | [], (y, v) :: ys, _, _, _, gq, h => by
    simp only [gdk] at gq
    obtain ⟨d, u, e, _, n1, n2, n3, n4, n5⟩ := head_kind y gq.1
    rw [List.map_cons, its_cons, csk, e] at h
    exact (ne_head (show _ :: _ = d :: _ from h) (fun z => n5 z.symm)).elim
  | (x, v) :: xs, [], _, _, gp, _, h => by
    simp only [gdk] at gp
    obtain ⟨d, u, e, _, n1, n2, n3, n4, n5⟩ := head_kind x gp.1
    rw [List.map_cons, its_cons, csk, e] at h
    exact (ne_head (show d :: _ = _ :: _ from h) n5).elim
  | (x, v) :: xs, (y, w) :: ys, t, t', gp, gq, h => by
    have gx : gd x ∧ gd v := by simp only [gdk] at gp; exact ⟨gp.1, gp.2.1⟩
    have gy : gd y ∧ gd w := by simp only [gdk] at gq; exact ⟨gq.1, gq.2.1⟩
    have gxs : gdk xs := by simp only [gdk] at gp; exact gp.2.2
    have gys : gdk ys := by simp only [gdk] at gq; exact gq.2.2
    rw [List.map_cons, List.map_cons, its_cons, its_cons, csk, csk] at h
    simp only [List.append_assoc, List.cons_append] at h
    obtain ⟨e1, e2⟩ := cs_dec x y gx.1 gy.1 (Dl.c (by omega)) (Dl.c (by omega)) h
    injection e2 with _ e2
    injection e2 with _ e2
    match xs, ys, gxs, gys, e2 with
    | [], [], _, _, e2 =>
      obtain ⟨e3, e4⟩ := cs_dec v w gx.2 gy.2 (Dl.c (by omega)) (Dl.c (by omega)) e2
      exact ⟨by rw [e1, e3], e4⟩
    | [], z :: ys, _, _, e2 =>
      obtain ⟨e3, e4⟩ := cs_dec v w gx.2 gy.2 (Dl.c (by omega)) (Dl.c (.inl rfl)) e2
      exact (ne_head e4 (by decide)).elim
    | z :: xs, [], _, _, e2 =>
      obtain ⟨e3, e4⟩ := cs_dec v w gx.2 gy.2 (Dl.c (.inl rfl)) (Dl.c (by omega)) e2
      exact (ne_head e4 (by decide)).elim
    | z :: xs, u :: ys, gxs, gys, e2 =>
      obtain ⟨e3, e4⟩ := cs_dec v w gx.2 gy.2 (Dl.c (.inl rfl)) (Dl.c (.inl rfl)) e2
      injection e4 with _ e4
      injection e4 with _ e4
      obtain ⟨e5, e6⟩ := itk_dec (z :: xs) (u :: ys) gxs gys e4
      exact ⟨by rw [e1, e3, e5], e6⟩
end
/-- two plain data of one repr are one -/
theorem shown_inj {p q : PyData} (gp : gd p) (gq : gd q) (h : p.shown = q.shown) : p = q := by
  refine (cs_dec p q (r := []) (s := []) gp gq Dl.nil Dl.nil ?_).1
  unfold cs
  rw [h]
end PV
/-! PL 9: things nested deep; what a repr is among -/
namespace PV
open PySem PySem.Spec PyProof.Rows L2
/-- d is the plain data p, of this depth and length -/
structure DD (d : D) (p : PyData) (m L : Nat) : Prop where
  pyD : d.pyD = some p
  py : d.py = none ∨ (d.py = some p ∧ p.hasDict = false)
  dep : p.depth ≤ m
  g : gd p
  sh : p.showable = true
  len : p.shown.length ≤ L
  big : d.pyD = some p ∧ (d.py = some p ∨ (∃ xs, d = .tup xs) ∨ (∃ xs, d = .lst xs) ∨ ∃ t xs, d = .dic t xs)
theorem shl {p : PyData} : p.shown.length = (cs p).length := by unfold cs; exact str_len
theorem DD.non : DD .non .none 1 4 := ⟨rfl, .inr ⟨rfl, by simp only [PyData.hasDict]⟩, by simp only [PyData.depth]; omega, by simp only [gd], by simp only [PyData.showable], by rw [shl, cs_none]; simp, rfl, .inl rfl⟩
theorem DD.bl {b : Bool} : DD (.bl b) (.bool b) 1 5 := ⟨rfl, .inr ⟨rfl, by simp only [PyData.hasDict]⟩, by simp only [PyData.depth]; omega, by simp only [gd], by simp only [PyData.showable], by rw [shl]; cases b <;> simp [cs_t, cs_f], rfl, .inl rfl⟩
theorem DD.int {i : Int} (h1 : -1000000000000000000000 < i) (h2 : i < 1000000000000000000000) : DD (.int i) (.int i) 1 501 := by
  have h : i.natAbs < 10 ^ 500 := Nat.lt_trans (m := 1000000000000000000000) (by omega) (by decide +kernel)
  exact ⟨rfl, .inr ⟨rfl, by simp only [PyData.hasDict]⟩, by simp only [PyData.depth]; omega, by simp only [gd], by simp only [PyData.showable, decide_eq_true_eq]; exact log2_500 h, shown_500 h, rfl, .inl rfl⟩
theorem DD.str {x : Str} (h : sgd x) : DD (.str x) (.str x) 1 (x.length + 2) := ⟨rfl, .inr ⟨rfl, by simp only [PyData.hasDict]⟩, by simp only [PyData.depth]; omega, by simpa only [gd] using h, by simp only [PyData.showable], by rw [shl, cs_str h, str_len]; simp, rfl, .inl rfl⟩
theorem DD.tup {d : D} {p : PyData} {m L : Nat} (h : DD d p m L) : DD (.tup [d]) (.tuple [p]) (m + 1) (L + 5) where
  pyD := by simp [D.pyD, D.pysD, h.pyD]
  py := by
    rcases h.py with e | ⟨e, f⟩
    · left; simp [D.py, D.pys, e]
    · right; exact ⟨by simp [D.py, D.pys, e], by simp only [PyData.hasDict, PyData.hasDictAll, f, Bool.or_self]⟩
  dep := by have := h.dep; simp only [PyData.depth, PyData.depthAll]; omega
  g := by simp only [gd, gds]; exact ⟨h.g, trivial⟩
  sh := by simp only [PyData.showable, PyData.showableAll, h.sh, Bool.and_self]
  len := by have := h.len; rw [shl] at this ⊢; rw [cs_tuple]; simp [its]; omega
  big := ⟨by simp [D.pyD, D.pysD, h.pyD], .inr (.inl ⟨_, rfl⟩)⟩
theorem DD.lst {d : D} {p : PyData} {m L : Nat} (h : DD d p m L) : DD (.lst [d]) (.list [p]) (m + 1) (L + 5) where
  pyD := by simp [D.pyD, D.pysD, h.pyD]
  py := by
    rcases h.py with e | ⟨e, f⟩
    · left; simp [D.py, D.pys, e]
    · right; exact ⟨by simp [D.py, D.pys, e], by simp only [PyData.hasDict, PyData.hasDictAll, f, Bool.or_self]⟩
  dep := by have := h.dep; simp only [PyData.depth, PyData.depthAll]; omega
  g := by simp only [gd, gds]; exact ⟨h.g, trivial⟩
  sh := by simp only [PyData.showable, PyData.showableAll, h.sh, Bool.and_self]
  len := by have := h.len; rw [shl] at this ⊢; rw [cs_list]; simp [its]; omega
  big := ⟨by simp [D.pyD, D.pysD, h.pyD], .inr (.inr (.inl ⟨_, rfl⟩))⟩
theorem cs_0 : cs (.int 0) = [48] := by rw [cs_int]; decide +kernel
theorem DD.dic {d : D} {p : PyData} {m L : Nat} (h : DD d p m L) : DD (.dic false [(.int 0, d)]) (.dict [(.int 0, p)]) (m + 1) (L + 5) where
  pyD := by simp [D.pyD, D.pykD, h.pyD]
  py := .inl rfl
  dep := by have := h.dep; simp only [PyData.depth, PyData.depthKv]; omega
  g := by simp only [gd, gdk]; exact ⟨trivial, h.g, trivial⟩
  sh := by simp only [PyData.showable, PyData.showableKv, h.sh, Bool.and_self]; decide
  len := by have := h.len; rw [shl] at this ⊢; rw [cs_dict]; simp [its, csk, cs_0]; omega
  big := ⟨by simp [D.pyD, D.pykD, h.pyD], .inr (.inr (.inr ⟨_, _, rfl⟩))⟩
theorem DD.okR {d : D} {p : PyData} {m L : Nat} (h : DD d p m L) (hm : m ≤ 60) (hL : L ≤ 16000000) : OkR d ∧ shw d = p.shown := by
  have dp := h.dep
  have ln := h.len
  rcases h.py with e | ⟨e, f⟩
  · rcases h.big.2 with z | z
    · rw [e] at z; cases z
    · exact okR_D e z h.pyD h.sh (by omega) (by omega)
  · have e1 : shw d = p.shown := by unfold shw; rw [e]
    refine ⟨okR_P ?_, e1⟩
    rw [e1]
    unfold reprP
    rw [e]
    simp only
    rw [if_pos ⟨h.sh, f, by omega, by omega⟩]
theorem DD.mono {d : D} {p : PyData} {m L m' L' : Nat} (h : DD d p m L) (h1 : m ≤ m') (h2 : L ≤ L') : DD d p m' L' := ⟨h.pyD, h.py, Nat.le_trans h.dep h1, h.g, h.sh, Nat.le_trans h.len h2, h.big⟩
/-- a repr is among reprs just if the thing is among things -/
theorem mem_shown {p : PyData} {l : List PyData} (gp : gd p) (gl : ∀ q ∈ l, gd q) : p.shown ∈ l.map PyData.shown ↔ p ∈ l := by
  constructor
  · intro h
    obtain ⟨q, hq, e⟩ := List.mem_map.mp h
    rw [← shown_inj (gl q hq) gp e]
    exact hq
  · intro h
    exact List.mem_map.mpr ⟨p, h, rfl⟩
theorem o_is_tn {T : Ty8} : gIs8 T [.non] = some (.bl false) := by cases T <;> rfl
/-- the same of a row -/
structure DDs (ds : List D) (ps : List PyData) (m L : Nat) : Prop where
  pyD : D.pysD ds = some ps
  py : D.pys ds = none ∨ (D.pys ds = some ps ∧ PyData.hasDictAll ps = false)
  dep : PyData.depthAll ps ≤ m
  g : gds ps
  sh : PyData.showableAll ps = true
  len : (its (ps.map cs)).length ≤ L
theorem DDs.nil {m L : Nat} : DDs [] [] m L := ⟨rfl, .inr ⟨rfl, by simp only [PyData.hasDictAll]⟩, by simp only [PyData.depthAll]; omega, by simp only [gds], by simp only [PyData.showableAll], by simp [its]⟩
theorem DDs.cons {d : D} {p : PyData} {ds : List D} {ps : List PyData} {m L L' : Nat} (h : DD d p m L) (t : DDs ds ps m L') : DDs (d :: ds) (p :: ps) m (L + L' + 2) where
  pyD := by simp [D.pysD, h.pyD, t.pyD]
  py := by
    rcases h.py with e | ⟨e, f⟩
    · left; simp [D.pys, e]
    · rcases t.py with e' | ⟨e', f'⟩
      · left; simp [D.pys, e, e']
      · right; exact ⟨by simp [D.pys, e, e'], by simp only [PyData.hasDictAll, f, f', Bool.or_self]⟩
  dep := by have := h.dep; have := t.dep; simp only [PyData.depthAll]; omega
  g := by simp only [gds]; exact ⟨h.g, t.g⟩
  sh := by simp only [PyData.showableAll, h.sh, t.sh, Bool.and_self]
  len := by
    have h1 := h.len
    rw [shl] at h1
    have h2 := t.len
    rw [List.map_cons, its_cons]
    cases e : ps.map cs with
    | nil => simp only [List.append_nil]; omega
    | cons y r => rw [e] at h2; simp only [List.length_append, List.length_cons]; omega
theorem DD.tups {ds : List D} {ps : List PyData} {m L : Nat} (h : DDs ds ps m L) : DD (.tup ds) (.tuple ps) (m + 1) (L + 5) where
  pyD := by simp [D.pyD, h.pyD]
  py := by
    rcases h.py with e | ⟨e, f⟩
    · left; simp [D.py, e]
    · right; exact ⟨by simp [D.py, e], by simp only [PyData.hasDict, f]⟩
  dep := by have := h.dep; simp only [PyData.depth]; omega
  g := by simp only [gd]; exact h.g
  sh := by simp only [PyData.showable, h.sh]
  len := by have := h.len; rw [shl, cs_tuple]; simp only [List.length_cons, List.length_append]; split <;> simp <;> omega
  big := ⟨by simp [D.pyD, h.pyD], .inr (.inl ⟨_, rfl⟩)⟩
theorem DD.lsts {ds : List D} {ps : List PyData} {m L : Nat} (h : DDs ds ps m L) : DD (.lst ds) (.list ps) (m + 1) (L + 5) where
  pyD := by simp [D.pyD, h.pyD]
  py := by
    rcases h.py with e | ⟨e, f⟩
    · left; simp [D.py, e]
    · right; exact ⟨by simp [D.py, e], by simp only [PyData.hasDict, f]⟩
  dep := by have := h.dep; simp only [PyData.depth]; omega
  g := by simp only [gd]; exact h.g
  sh := by simp only [PyData.showable, h.sh]
  len := by have := h.len; rw [shl, cs_list]; simp only [List.length_cons, List.length_append]; simp; omega
  big := ⟨by simp [D.pyD, h.pyD], .inr (.inr (.inl ⟨_, rfl⟩))⟩
end PV
/-! PL 10: rules of Pv21, Pv22 -/
namespace PV
open PySem L2
theorem o_enumAl {xs : List D} : gEnumA [.lst xs] = some ((List.range xs.length).map fun i => .tup [.int (i : Nat), xs.getD i .non]) := (rfl)
theorem o_enumAt {xs : List D} : gEnumA [.tup xs] = some ((List.range xs.length).map fun i => .tup [.int (i : Nat), xs.getD i .non]) := (rfl)
theorem o_mulT {a : List D} {k : Int} {K : D → Prop} : wpo (gMulT [.tup a, .int k]) K = ((a ≠ [] ∧ a.length ≤ 1000 ∧ 1 ≤ k ∧ k ≤ 1000) ∧ K (.tup (List.replicate k.toNat a).flatten)) := wpo_ite
end PV
/-! PL 11: dicts whose keys are pairs of ints -/
namespace PV
open PySem L2
/-- a dict: these pairs, each with True -/
def dT (l : List (Int × Int)) : D := .dic true (l.map fun q => (e2 q, .bl true))
theorem o_dT0 : gDicT [] = some (dT []) := (rfl)
theorem tk_e2 (q : Int × Int) : tkOf (e2 q) = some [.inl q.1, .inl q.2] := rfl
theorem putT {l : List (Int × Int)} {a b : Int} : putD (l.map fun q => (e2 q, D.bl true)) (fun x => decide (tkOf x = some [Sum.inl a, Sum.inl b])) (e2 (a, b)) (.bl true) = (if (a, b) ∈ l then l else l ++ [(a, b)]).map fun q => (e2 q, D.bl true) := by
  have k : ∀ q : Int × Int, (decide (tkOf (e2 q) = some [Sum.inl a, Sum.inl b]) = true) ↔ q = (a, b) := fun q => by
    rw [tk_e2]
    obtain ⟨x, y⟩ := q
    simp
  unfold putD
  have ea : ((l.map fun q => (e2 q, D.bl true)).any fun p => decide (tkOf p.1 = some [Sum.inl a, Sum.inl b])) = decide ((a, b) ∈ l) := by
    rw [Bool.eq_iff_iff, List.any_eq_true, decide_eq_true_eq]
    constructor
    · rintro ⟨p, hp, h⟩
      obtain ⟨q, hq, rfl⟩ := List.mem_map.mp hp
      rw [← (k q).mp h]; exact hq
    · intro h
      exact ⟨_, List.mem_map.mpr ⟨_, h, rfl⟩, (k _).mpr rfl⟩
  rw [ea]
  by_cases c : (a, b) ∈ l
  · rw [if_pos (decide_eq_true c), if_pos c, List.map_map]
    refine List.map_congr_left fun q _ => ?_
    simp only [Function.comp]
    split <;> rfl
  · rw [if_neg (by simp [c]), if_neg c, List.map_append]
    rfl
theorem o_putT {l : List (Int × Int)} {a b : Int} {K : D → Prop} : wpo (gPutD (dT l) (.tup [.int a, .int b]) (.bl true)) K = (l.length < 16000000 ∧ K (dT (if (a, b) ∈ l then l else l ++ [(a, b)]))) := by
  have e : gPutD (dT l) (.tup [.int a, .int b]) (.bl true) = if l.length < 16000000 then some (dT (if (a, b) ∈ l then l else l ++ [(a, b)])) else none := by
    unfold dT
    rw [← putT]
    simp only [gPutD, kOfs, kOf, Option.bind_some, List.length_map]
    rfl
  rw [e]
  exact wpo_ite
theorem srt_e2 {l : List (Int × Int)} (h : l.length ≤ 16000000) : SrtD (l.map e2) :=
  srtD_map py_e2 (fun a _ b _ => by simp [PySem.W.alike, PySem.W.alikeAll]) (.inl fun a => ⟨_, _, rfl⟩) (fun a _ => by simp [PyData.depth, PyData.depthAll]) h
theorem o_sortT {l : List (Int × Int)} (h : l.length ≤ 16000000) : gSortT [dT l] = some (.lst ((l.map e2).mergeSort leD)) := by
  unfold gSortT dT
  have e : (l.map fun q => (e2 q, D.bl true)).map Prod.fst = l.map e2 := by rw [List.map_map]; rfl
  have s := srt_e2 h
  rw [← e] at s
  simp only [if_pos s]
  rw [e]
theorem o_sortE2 {l : List (Int × Int)} (h : l.length ≤ 16000000) : gSortB [.lst (l.map e2)] = some (.lst ((l.map e2).mergeSort leD)) := by
  cases l with
  | nil => exact gSortB_of (by rw [show ([] : List (Int × Int)).map e2 = ([] : List Int).map D.int from rfl, o_sortI]; simp [srt])
  | cons x l => exact gSortB_D (sort_none rfl) (srt_e2 h)
theorem nk_dT {l : List (Int × Int)} : normK (dT l) true = 1 := (rfl)
theorem mut_dT {l : List (Int × Int)} : (dT l).mut = true := (rfl)
end PV
namespace K95
open PySem PySem.Spec PyProof.Rows L2 PV
def topS (i : Nat) : Stmt := PySem.Challenge.pw_fewtoys_k95_whole_balls_that_come_to_cor.main.body.getD i (.Pass ⟨0, 0, 0, 0⟩)
abbrev s_is_integer : Stmt := topS 1
theorem sc_is_integer : FnScope ["thing"] ["thing"] (defScope s_is_integer) := ⟨rfl, rfl, rfl, by decide +kernel, rfl, by decide +kernel, by decide +kernel⟩
noncomputable def b_is_integer : ASt :=
  (fRet (fAndV (fAp (gIs8 .int) [.vw 0]) (fNotV (fAp (gIs8 .bool) [.vw 0]))))
noncomputable def F_is_integer : AF := runDef 1 none b_is_integer
theorem ok_is_integer {P : Program} {w : World} {K : PySem.W.Frag} {mg : Str → Option Value} {base : Heap} (D0 : DefAt K mg "is_integer" s_is_integer)
    (m_bool : mg "bool" = none)
    (m_int : mg "int" = none)
    (m_isinstance : mg "isinstance" = none) :
    Def P w K mg base 1 "is_integer" ["thing"] false none F_is_integer :=
  def_mk (N := ["thing"]) (fun _ => true) D0 (fun _ _ _ _ _ _ us hl => match us, hl with | [_], _ => rfl) sc_is_integer (fun i e => nomatch e) fun f cdv B outer s H E hr hg => by
    have hgd : (B.deeper (envOfC "is_integer" (defScope s_is_integer) s.heap.objs.size f cdv)).guards = some [] := hg
    have hu := hr.units
    have hu65 : (B.deeper (envOfC "is_integer" (defScope s_is_integer) s.heap.objs.size f cdv)).units + 65 < cLine := by have := hr.un; omega
    have tk : Takes (cxOf (L2.CX P w) P w K mg base ["thing"] "is_integer" (defScope s_is_integer) f cdv B outer s H E) (fun cls dx _ H' => E cls dx H') := takes_of rfl rfl rfl rfl
    exact (mss_one (ms_ret (me_low (me_and (me_isi (T := .int) (pv 0) m_isinstance m_int (by decide +kernel)) (me_one (me_notV (me_isi (T := .bool) (pv 0) m_isinstance m_bool (by decide +kernel))))))))
abbrev s_is_within : Stmt := topS 2
theorem sc_is_within : FnScope ["thing", "low", "high"] ["thing", "low", "high"] (defScope s_is_within) := ⟨rfl, rfl, rfl, by decide +kernel, rfl, by decide +kernel, by decide +kernel⟩
noncomputable def b_is_within : ASt :=
  (fRet (fAndV (fCall F_is_integer none [.vw 0]) (fChain gLe gLe (.vw 1) (.vw 0) (.vw 2))))
noncomputable def F_is_within : AF := runDef 3 none b_is_within
theorem ok_is_within {P : Program} {w : World} {K : PySem.W.Frag} {mg : Str → Option Value} {base : Heap} (D0 : DefAt K mg "is_within" s_is_within)
    (D_is_integer : Def P w K mg base 1 "is_integer" ["thing"] false none F_is_integer) :
    Def P w K mg base 2 "is_within" ["thing", "low", "high"] false none F_is_within :=
  def_mk (N := ["thing", "low", "high"]) (fun _ => true) D0 (fun _ _ _ _ _ _ us hl => match us, hl with | [_, _, _], _ => rfl) sc_is_within (fun i e => nomatch e) fun f cdv B outer s H E hr hg => by
    have hgd : (B.deeper (envOfC "is_within" (defScope s_is_within) s.heap.objs.size f cdv)).guards = some [] := hg
    have hu := hr.units
    have hu65 : (B.deeper (envOfC "is_within" (defScope s_is_within) s.heap.objs.size f cdv)).units + 65 < cLine := by have := hr.un; omega
    have tk : Takes (cxOf (L2.CX P w) P w K mg base ["thing", "low", "high"] "is_within" (defScope s_is_within) f cdv B outer s H E) (fun cls dx _ H' => E cls dx H') := takes_of rfl rfl rfl rfl
    have hris_integer := hr.mono (show 1 ≤ 1 by decide)
    exact (mss_one (ms_ret (me_low (me_and (me_callD D_is_integer tk hgd hris_integer (mas_cons (pv 0) mas_nil)) (me_one (me_chain op_leA op_leA le_ok le_ok (pv 1) (pv 0) (pv 2)))))))
abbrev s_is_tuple : Stmt := topS 3
theorem sc_is_tuple : FnScope ["thing", "least", "most"] ["thing", "least", "most"] (defScope s_is_tuple) := ⟨rfl, rfl, rfl, by decide +kernel, rfl, by decide +kernel, by decide +kernel⟩
noncomputable def b_is_tuple : ASt :=
  (fRet (fAndV (fAp (gIs8 .tuple) [.vw 0]) (fChain gLe gLe (.vw 1) (.ev true (fAp gLen [.vw 0])) (.vw 2))))
noncomputable def F_is_tuple : AF := runDef 3 none b_is_tuple
theorem ok_is_tuple {P : Program} {w : World} {K : PySem.W.Frag} {mg : Str → Option Value} {base : Heap} (D0 : DefAt K mg "is_tuple" s_is_tuple)
    (m_isinstance : mg "isinstance" = none)
    (m_len : mg "len" = none)
    (m_tuple : mg "tuple" = none) :
    Def P w K mg base 1 "is_tuple" ["thing", "least", "most"] false none F_is_tuple :=
  def_mk (N := ["thing", "least", "most"]) (fun _ => true) D0 (fun _ _ _ _ _ _ us hl => match us, hl with | [_, _, _], _ => rfl) sc_is_tuple (fun i e => nomatch e) fun f cdv B outer s H E hr hg => by
    have hgd : (B.deeper (envOfC "is_tuple" (defScope s_is_tuple) s.heap.objs.size f cdv)).guards = some [] := hg
    have hu := hr.units
    have hu65 : (B.deeper (envOfC "is_tuple" (defScope s_is_tuple) s.heap.objs.size f cdv)).units + 65 < cLine := by have := hr.un; omega
    have tk : Takes (cxOf (L2.CX P w) P w K mg base ["thing", "least", "most"] "is_tuple" (defScope s_is_tuple) f cdv B outer s H E) (fun cls dx _ H' => E cls dx H') := takes_of rfl rfl rfl rfl
    exact (mss_one (ms_ret (me_low (me_and (me_isi (T := .tuple) (pv 0) m_isinstance m_tuple (by decide +kernel)) (me_one (me_chain op_leA op_leA le_ok le_ok (pv 1) (ma_ev (me_bi len_ok call_len m_len (by decide +kernel) (mas_cons (pv 0) mas_nil))) (pv 2)))))))
abbrev s_divisor : Stmt := topS 9
theorem sc_divisor : FnScope ["one", "other"] ["one", "other"] (defScope s_divisor) := ⟨rfl, rfl, rfl, by decide +kernel, rfl, by decide +kernel, by decide +kernel⟩
noncomputable def b_divisor : ASt :=
  (fSeq (fPar [0, 1] [(true, (fAp gAbs [.vw 0])), (true, (fAp gAbs [.vw 1]))])
  (fSeq (fWhile 1000000000 (fTb (fAp gNe [.vw 1, .ev false (fC (.int 0))])) (fPar [0, 1] [(false, (fVar 1)), (true, (fAp gMod [.vw 0, .vw 1]))]))
  (fRet (fVar 0))))
noncomputable def F_divisor : AF := runDef 2 none b_divisor
theorem ok_divisor {P : Program} {w : World} {K : PySem.W.Frag} {mg : Str → Option Value} {base : Heap} (D0 : DefAt K mg "divisor" s_divisor)
    (m_abs : mg "abs" = none) :
    Def P w K mg base 1 "divisor" ["one", "other"] false none F_divisor :=
  def_mk (N := ["one", "other"]) (fun _ => true) D0 (fun _ _ _ _ _ _ us hl => match us, hl with | [_, _], _ => rfl) sc_divisor (fun i e => nomatch e) fun f cdv B outer s H E hr hg => by
    have hgd : (B.deeper (envOfC "divisor" (defScope s_divisor) s.heap.objs.size f cdv)).guards = some [] := hg
    have hu := hr.units
    have hu65 : (B.deeper (envOfC "divisor" (defScope s_divisor) s.heap.objs.size f cdv)).units + 65 < cLine := by have := hr.un; omega
    have tk : Takes (cxOf (L2.CX P w) P w K mg base ["one", "other"] "divisor" (defScope s_divisor) f cdv B outer s H E) (fun cls dx _ H' => E cls dx H') := takes_of rfl rfl rfl rfl
    exact (mss_cons (ms_par2 (i := 0) (j := 1) rfl sc_divisor.nd rfl rfl (by decide) rfl rfl rfl rfl (me_bi abs_ok call_abs m_abs (by decide +kernel) (mas_cons (pv 0) mas_nil)) (me_bi abs_ok call_abs m_abs (by decide +kernel) (mas_cons (pv 1) mas_nil)) rfl)
    (mss_cons (ms_while 1000000000 (passes_of rfl) (mt_cmp (op_neA hu) ne_ok (pv 1) (ma_ev me_int) (nomark _)) (mss_one (ms_par2 (i := 0) (j := 1) rfl sc_divisor.nd rfl rfl (by decide) rfl rfl rfl rfl (me_var (pv 1)) (me_bin op_mod mod_ok (pv 0) (pv 1)) rfl)))
    (mss_one (ms_ret (me_var (pv 0))))))
abbrev s_check_box : Stmt := topS 13
theorem sc_check_box : FnScope ["box", "one"] ["box"] (defScope s_check_box) := ⟨rfl, rfl, rfl, by decide +kernel, rfl, by decide +kernel, by decide +kernel⟩
noncomputable def b_check_box : ASt :=
  (fIfS (fOrT (fNotT (fTru (.ev false (fCall F_is_tuple none [.vw 0, .ev false (fC (.int 2)), .ev false (fC (.int 2))])))) (fNotT (fTru (.ev true (fAp gAll [.ev true (fLc [1] (fItV 0) (.nm 1) fYes (fCall F_is_within none [.vw 1, .ev false (fC (.int 1)), .ev false (fC (.int 60))]))]))))) fNever fNext)
noncomputable def F_check_box : AF := runDef 2 none b_check_box
theorem ok_check_box {P : Program} {w : World} {K : PySem.W.Frag} {mg : Str → Option Value} {base : Heap} (D0 : DefAt K mg "check_box" s_check_box)
    (D_is_tuple : Def P w K mg base 1 "is_tuple" ["thing", "least", "most"] false none F_is_tuple)
    (D_is_within : Def P w K mg base 2 "is_within" ["thing", "low", "high"] false none F_is_within)
    (m_all : mg "all" = none)
    {u_LONGEST : Value} (hm_LONGEST : mg "LONGEST" = some u_LONGEST) (hr_LONGEST : RelV (.int 60) u_LONGEST) :
    Def P w K mg base 3 "check_box" ["box"] false none F_check_box :=
  def_mk (N := ["box", "one"]) (fun _ => true) D0 (fun _ _ _ _ _ _ us hl => match us, hl with | [_], _ => rfl) sc_check_box (fun i e => nomatch e) fun f cdv B outer s H E hr hg => by
    have hgd : (B.deeper (envOfC "check_box" (defScope s_check_box) s.heap.objs.size f cdv)).guards = some [] := hg
    have hu := hr.units
    have hu65 : (B.deeper (envOfC "check_box" (defScope s_check_box) s.heap.objs.size f cdv)).units + 65 < cLine := by have := hr.un; omega
    have tk : Takes (cxOf (L2.CX P w) P w K mg base ["box", "one"] "check_box" (defScope s_check_box) f cdv B outer s H E) (fun cls dx _ H' => E cls dx H') := takes_of rfl rfl rfl rfl
    have hris_tuple := hr.mono (show 1 ≤ 2 by decide)
    have hris_within := hr.mono (show 2 ≤ 2 by decide)
    exact (mss_one (ms_if (mt_w (mw_or (mt_not (mt_tru (ma_ev (me_callD D_is_tuple tk hgd hris_tuple (mas_cons (pv 0) (mas_cons (ma_ev me_int) (mas_cons (ma_ev me_int) mas_nil))))))) (mw_or1 (mt_not (mt_tru (ma_ev (me_bi all_ok (cr_all rfl) m_all (by decide +kernel) (mas_cons (ma_ev (me_lc (own := [("one", 1)]) rfl sc_check_box.nd rfl (mi_v (pv 0)) (blkOk_by (N := ["box", "one"]) (sc := defScope s_check_box) (by decide +kernel)) (fun _ _ _ _ _ => (mg_nm sc_check_box.nd rfl (by first | exact .inl rfl | exact .inr rfl))) (fun _ _ _ _ _ => mts_nil) (fun _ _ _ _ _ => (me_callD D_is_within takes0 hgd hris_within (mas_cons (pv 1) (mas_cons (ma_ev me_int) (mas_cons (ma_ev (me_glob hm_LONGEST hr_LONGEST fun _ _ _ => .int _)) mas_nil))))))) mas_nil)))))))) (mss_one ms_never) mss_nil))
abbrev s_steps_to : Stmt := topS 14
theorem sc_steps_to : FnScope ["box"] ["box"] (defScope s_steps_to) := ⟨rfl, rfl, rfl, by decide +kernel, rfl, by decide +kernel, by decide +kernel⟩
noncomputable def b_steps_to : ASt :=
  (fRet (fAp gFdiv [.ev true (fAp gMul [.ev false (fAp gIdx [.vw 0, .ev false (fC (.int 0))]), .ev false (fAp gIdx [.vw 0, .ev false (fC (.int 1))])]), .ev false (fCall F_divisor none [.ev false (fAp gIdx [.vw 0, .ev false (fC (.int 0))]), .ev false (fAp gIdx [.vw 0, .ev false (fC (.int 1))])])]))
noncomputable def F_steps_to : AF := runDef 1 none b_steps_to
theorem ok_steps_to {P : Program} {w : World} {K : PySem.W.Frag} {mg : Str → Option Value} {base : Heap} (D0 : DefAt K mg "steps_to" s_steps_to)
    (D_divisor : Def P w K mg base 1 "divisor" ["one", "other"] false none F_divisor) :
    Def P w K mg base 2 "steps_to" ["box"] false none F_steps_to :=
  def_mk (N := ["box"]) (fun _ => true) D0 (fun _ _ _ _ _ _ us hl => match us, hl with | [_], _ => rfl) sc_steps_to (fun i e => nomatch e) fun f cdv B outer s H E hr hg => by
    have hgd : (B.deeper (envOfC "steps_to" (defScope s_steps_to) s.heap.objs.size f cdv)).guards = some [] := hg
    have hu := hr.units
    have hu65 : (B.deeper (envOfC "steps_to" (defScope s_steps_to) s.heap.objs.size f cdv)).units + 65 < cLine := by have := hr.un; omega
    have tk : Takes (cxOf (L2.CX P w) P w K mg base ["box"] "steps_to" (defScope s_steps_to) f cdv B outer s H E) (fun cls dx _ H' => E cls dx H') := takes_of rfl rfl rfl rfl
    have hrdivisor := hr.mono (show 1 ≤ 1 by decide)
    exact (mss_one (ms_ret (me_low (me_bin op_fdiv fdiv_ok (ma_ev (me_bin op_mulA mul_ok (ma_ev (me_idx (pv 0) (ma_ev me_int) (fun _ _ => rfl))) (ma_ev (me_idx (pv 0) (ma_ev me_int) (fun _ _ => rfl))))) (ma_ev (me_callD D_divisor tk hgd hrdivisor (mas_cons (ma_ev (me_idx (pv 0) (ma_ev me_int) (fun _ _ => rfl))) (mas_cons (ma_ev (me_idx (pv 0) (ma_ev me_int) (fun _ _ => rfl))) mas_nil))))))))
abbrev s_corner_of : Stmt := topS 15
theorem sc_corner_of : FnScope ["box", "steps", "wide", "high", "word"] ["box"] (defScope s_corner_of) := ⟨rfl, rfl, rfl, by decide +kernel, rfl, by decide +kernel, by decide +kernel⟩
noncomputable def b_corner_of : ASt :=
  (fSeq (fExpr (fCall F_check_box none [.vw 0]))
  (fSeq (fSet 1 false (fCall F_steps_to none [.vw 0]))
  (fSeq (fPar [2, 3] [(true, (fAp gFdiv [.vw 1, .ev false (fAp gIdx [.vw 0, .ev false (fC (.int 0))])])), (true, (fAp gFdiv [.vw 1, .ev false (fAp gIdx [.vw 0, .ev false (fC (.int 1))])]))])
  (fSeq (fSet 4 false (fIfE (fAndT (fTb (fAp gEq [.ev true (fAp gMod [.vw 2, .ev false (fC (.int 2))]), .ev false (fC (.int 1))])) (fTb (fAp gEq [.ev true (fAp gMod [.vw 3, .ev false (fC (.int 2))]), .ev false (fC (.int 1))]))) (fC (.str (Str.ofString "across"))) (fIfE (fTb (fAp gEq [.ev true (fAp gMod [.vw 2, .ev false (fC (.int 2))]), .ev false (fC (.int 1))])) (fC (.str (Str.ofString "right"))) (fC (.str (Str.ofString "left"))))))
  (fRet (fApF gTupD [.ev false (fVar 4), .ev false (fVar 1), .ev true (fAp gSub [.ev true (fAp gAdd [.vw 2, .vw 3]), .ev false (fC (.int 2))])]))))))
noncomputable def F_corner_of : AF := runDef 5 none b_corner_of
theorem ok_corner_of {P : Program} {w : World} {K : PySem.W.Frag} {mg : Str → Option Value} {base : Heap} (D0 : DefAt K mg "corner_of" s_corner_of)
    (D_check_box : Def P w K mg base 3 "check_box" ["box"] false none F_check_box)
    (D_steps_to : Def P w K mg base 2 "steps_to" ["box"] false none F_steps_to) :
    Def P w K mg base 4 "corner_of" ["box"] false none F_corner_of :=
  def_mk (N := ["box", "steps", "wide", "high", "word"]) (fun _ => true) D0 (fun _ _ _ _ _ _ us hl => match us, hl with | [_], _ => rfl) sc_corner_of (fun i e => nomatch e) fun f cdv B outer s H E hr hg => by
    have hgd : (B.deeper (envOfC "corner_of" (defScope s_corner_of) s.heap.objs.size f cdv)).guards = some [] := hg
    have hu := hr.units
    have hu65 : (B.deeper (envOfC "corner_of" (defScope s_corner_of) s.heap.objs.size f cdv)).units + 65 < cLine := by have := hr.un; omega
    have tk : Takes (cxOf (L2.CX P w) P w K mg base ["box", "steps", "wide", "high", "word"] "corner_of" (defScope s_corner_of) f cdv B outer s H E) (fun cls dx _ H' => E cls dx H') := takes_of rfl rfl rfl rfl
    have hrcheck_box := hr.mono (show 3 ≤ 3 by decide)
    have hrsteps_to := hr.mono (show 2 ≤ 3 by decide)
    exact (mss_cons (ms_expr (me_callD D_check_box tk hgd hrcheck_box (mas_cons (pv 0) mas_nil)))
    (mss_cons (ms_set (i := 1) sc_corner_of.nd rfl (by first | exact .inl rfl | exact .inr rfl) rfl (me_callD D_steps_to tk hgd hrsteps_to (mas_cons (pv 0) mas_nil)))
    (mss_cons (ms_par2 (i := 2) (j := 3) rfl sc_corner_of.nd rfl rfl (by decide) rfl rfl rfl rfl (me_bin op_fdiv fdiv_ok (pv 1) (ma_ev (me_idx (pv 0) (ma_ev me_int) (fun _ _ => rfl)))) (me_bin op_fdiv fdiv_ok (pv 1) (ma_ev (me_idx (pv 0) (ma_ev me_int) (fun _ _ => rfl)))) rfl)
    (mss_cons (ms_set (i := 4) sc_corner_of.nd rfl (by first | exact .inl rfl | exact .inr rfl) rfl (me_if (mt_w (mw_and (mt_cmp (op_eqA hu) eq_ok (ma_ev (me_bin op_mod mod_ok (pv 2) (ma_ev me_int))) (ma_ev me_int) (nomark _)) (mw_and1 (mt_cmp (op_eqA hu) eq_ok (ma_ev (me_bin op_mod mod_ok (pv 3) (ma_ev me_int))) (ma_ev me_int) (nomark _))))) me_str (me_if (mt_cmp (op_eqA hu) eq_ok (ma_ev (me_bin op_mod mod_ok (pv 2) (ma_ev me_int))) (ma_ev me_int) (nomark _)) me_str me_str)))
    (mss_one (ms_ret (me_tup (mas_cons (ma_ev (me_var (pv 4))) (mas_cons (ma_ev (me_var (pv 1))) (mas_cons (ma_ev (me_bin op_subA sub_ok (ma_ev (me_bin op_addA add_ok (pv 2) (pv 3))) (ma_ev me_int))) mas_nil))))))))))
abbrev s_folded : Stmt := topS 16
theorem sc_folded : FnScope ["at", "long", "rest"] ["at", "long"] (defScope s_folded) := ⟨rfl, rfl, rfl, by decide +kernel, rfl, by decide +kernel, by decide +kernel⟩
noncomputable def b_folded : ASt :=
  (fSeq (fSet 2 true (fAp gMod [.vw 0, .ev true (fAp gMul [.ev false (fC (.int 2)), .vw 1])]))
  (fRet (fAp gMinB [.vw 2, .ev true (fAp gSub [.ev true (fAp gMul [.ev false (fC (.int 2)), .vw 1]), .vw 2])])))
noncomputable def F_folded : AF := runDef 3 none b_folded
theorem ok_folded {P : Program} {w : World} {K : PySem.W.Frag} {mg : Str → Option Value} {base : Heap} (D0 : DefAt K mg "folded" s_folded)
    (m_min : mg "min" = none) :
    Def P w K mg base 1 "folded" ["at", "long"] false none F_folded :=
  def_mk (N := ["at", "long", "rest"]) (fun _ => true) D0 (fun _ _ _ _ _ _ us hl => match us, hl with | [_, _], _ => rfl) sc_folded (fun i e => nomatch e) fun f cdv B outer s H E hr hg => by
    have hgd : (B.deeper (envOfC "folded" (defScope s_folded) s.heap.objs.size f cdv)).guards = some [] := hg
    have hu := hr.units
    have hu65 : (B.deeper (envOfC "folded" (defScope s_folded) s.heap.objs.size f cdv)).units + 65 < cLine := by have := hr.un; omega
    have tk : Takes (cxOf (L2.CX P w) P w K mg base ["at", "long", "rest"] "folded" (defScope s_folded) f cdv B outer s H E) (fun cls dx _ H' => E cls dx H') := takes_of rfl rfl rfl rfl
    exact (mss_cons (ms_set (i := 2) sc_folded.nd rfl (by first | exact .inl rfl | exact .inr rfl) rfl (me_bin op_mod mod_ok (pv 0) (ma_ev (me_bin op_mulA mul_ok (ma_ev me_int) (pv 1)))))
    (mss_one (ms_ret (me_bi minB_ok (cr_minB rfl hu65) m_min (by decide +kernel) (mas_cons (pv 2) (mas_cons (ma_ev (me_bin op_subA sub_ok (ma_ev (me_bin op_mulA mul_ok (ma_ev me_int) (pv 1))) (pv 2))) mas_nil))))))
abbrev s_dot_at : Stmt := topS 17
theorem sc_dot_at : FnScope ["box", "x", "steps"] ["box", "x", "steps"] (defScope s_dot_at) := ⟨rfl, rfl, rfl, by decide +kernel, rfl, by decide +kernel, by decide +kernel⟩
noncomputable def b_dot_at : ASt :=
  (fRet (fApF gTupD [.ev false (fCall F_folded none [.ev true (fAp gAdd [.vw 1, .vw 2]), .ev false (fAp gIdx [.vw 0, .ev false (fC (.int 0))])]), .ev false (fCall F_folded none [.vw 2, .ev false (fAp gIdx [.vw 0, .ev false (fC (.int 1))])])]))
noncomputable def F_dot_at : AF := runDef 3 none b_dot_at
theorem ok_dot_at {P : Program} {w : World} {K : PySem.W.Frag} {mg : Str → Option Value} {base : Heap} (D0 : DefAt K mg "dot_at" s_dot_at)
    (D_folded : Def P w K mg base 1 "folded" ["at", "long"] false none F_folded) :
    Def P w K mg base 2 "dot_at" ["box", "x", "steps"] false none F_dot_at :=
  def_mk (N := ["box", "x", "steps"]) (fun _ => true) D0 (fun _ _ _ _ _ _ us hl => match us, hl with | [_, _, _], _ => rfl) sc_dot_at (fun i e => nomatch e) fun f cdv B outer s H E hr hg => by
    have hgd : (B.deeper (envOfC "dot_at" (defScope s_dot_at) s.heap.objs.size f cdv)).guards = some [] := hg
    have hu := hr.units
    have hu65 : (B.deeper (envOfC "dot_at" (defScope s_dot_at) s.heap.objs.size f cdv)).units + 65 < cLine := by have := hr.un; omega
    have tk : Takes (cxOf (L2.CX P w) P w K mg base ["box", "x", "steps"] "dot_at" (defScope s_dot_at) f cdv B outer s H E) (fun cls dx _ H' => E cls dx H') := takes_of rfl rfl rfl rfl
    have hrfolded := hr.mono (show 1 ≤ 1 by decide)
    exact (mss_one (ms_ret (me_tup (mas_cons (ma_ev (me_callD D_folded tk hgd hrfolded (mas_cons (ma_ev (me_bin op_addA add_ok (pv 1) (pv 2))) (mas_cons (ma_ev (me_idx (pv 0) (ma_ev me_int) (fun _ _ => rfl))) mas_nil)))) (mas_cons (ma_ev (me_callD D_folded tk hgd hrfolded (mas_cons (pv 2) (mas_cons (ma_ev (me_idx (pv 0) (ma_ev me_int) (fun _ _ => rfl))) mas_nil)))) mas_nil)))))
abbrev s_place_at : Stmt := topS 18
theorem sc_place_at : FnScope ["box", "steps"] ["box", "steps"] (defScope s_place_at) := ⟨rfl, rfl, rfl, by decide +kernel, rfl, by decide +kernel, by decide +kernel⟩
noncomputable def b_place_at : ASt :=
  (fSeq (fExpr (fCall F_check_box none [.vw 0]))
  (fSeq (fIfS (fNotT (fTru (.ev false (fCall F_is_within none [.vw 1, .ev false (fC (.int 0)), .ev false (fC (.int 10000))])))) fNever fNext)
  (fRet (fCall F_dot_at none [.vw 0, .ev false (fC (.int 0)), .vw 1]))))
noncomputable def F_place_at : AF := runDef 2 none b_place_at
theorem ok_place_at {P : Program} {w : World} {K : PySem.W.Frag} {mg : Str → Option Value} {base : Heap} (D0 : DefAt K mg "place_at" s_place_at)
    (D_check_box : Def P w K mg base 3 "check_box" ["box"] false none F_check_box)
    (D_dot_at : Def P w K mg base 2 "dot_at" ["box", "x", "steps"] false none F_dot_at)
    (D_is_within : Def P w K mg base 2 "is_within" ["thing", "low", "high"] false none F_is_within)
    {u_MOST_STEPS : Value} (hm_MOST_STEPS : mg "MOST_STEPS" = some u_MOST_STEPS) (hr_MOST_STEPS : RelV (.int 10000) u_MOST_STEPS) :
    Def P w K mg base 4 "place_at" ["box", "steps"] false none F_place_at :=
  def_mk (N := ["box", "steps"]) (fun _ => true) D0 (fun _ _ _ _ _ _ us hl => match us, hl with | [_, _], _ => rfl) sc_place_at (fun i e => nomatch e) fun f cdv B outer s H E hr hg => by
    have hgd : (B.deeper (envOfC "place_at" (defScope s_place_at) s.heap.objs.size f cdv)).guards = some [] := hg
    have hu := hr.units
    have hu65 : (B.deeper (envOfC "place_at" (defScope s_place_at) s.heap.objs.size f cdv)).units + 65 < cLine := by have := hr.un; omega
    have tk : Takes (cxOf (L2.CX P w) P w K mg base ["box", "steps"] "place_at" (defScope s_place_at) f cdv B outer s H E) (fun cls dx _ H' => E cls dx H') := takes_of rfl rfl rfl rfl
    have hrcheck_box := hr.mono (show 3 ≤ 3 by decide)
    have hrdot_at := hr.mono (show 2 ≤ 3 by decide)
    have hris_within := hr.mono (show 2 ≤ 3 by decide)
    exact (mss_cons (ms_expr (me_callD D_check_box tk hgd hrcheck_box (mas_cons (pv 0) mas_nil)))
    (mss_cons (ms_if (mt_not (mt_tru (ma_ev (me_callD D_is_within tk hgd hris_within (mas_cons (pv 1) (mas_cons (ma_ev me_int) (mas_cons (ma_ev (me_glob hm_MOST_STEPS hr_MOST_STEPS fun _ _ _ => .int _)) mas_nil))))))) (mss_one ms_never) mss_nil)
    (mss_one (ms_ret (me_callD D_dot_at tk hgd hrdot_at (mas_cons (pv 0) (mas_cons (ma_ev me_int) (mas_cons (pv 1) mas_nil))))))))
abbrev s_meets_itself : Stmt := topS 19
theorem sc_meets_itself : FnScope ["box", "low"] ["box"] (defScope s_meets_itself) := ⟨rfl, rfl, rfl, by decide +kernel, rfl, by decide +kernel, by decide +kernel⟩
noncomputable def b_meets_itself : ASt :=
  (fSeq (fExpr (fCall F_check_box none [.vw 0]))
  (fSeq (fSet 1 false (fCall F_divisor none [.ev false (fAp gIdx [.vw 0, .ev false (fC (.int 0))]), .ev false (fAp gIdx [.vw 0, .ev false (fC (.int 1))])]))
  (fRet (fAp gFdiv [.ev true (fAp gMul [.ev true (fAp gSub [.ev true (fAp gFdiv [.ev false (fAp gIdx [.vw 0, .ev false (fC (.int 0))]), .vw 1]), .ev false (fC (.int 1))]), .ev true (fAp gSub [.ev true (fAp gFdiv [.ev false (fAp gIdx [.vw 0, .ev false (fC (.int 1))]), .vw 1]), .ev false (fC (.int 1))])]), .ev false (fC (.int 2))]))))
noncomputable def F_meets_itself : AF := runDef 2 none b_meets_itself
theorem ok_meets_itself {P : Program} {w : World} {K : PySem.W.Frag} {mg : Str → Option Value} {base : Heap} (D0 : DefAt K mg "meets_itself" s_meets_itself)
    (D_check_box : Def P w K mg base 3 "check_box" ["box"] false none F_check_box)
    (D_divisor : Def P w K mg base 1 "divisor" ["one", "other"] false none F_divisor) :
    Def P w K mg base 4 "meets_itself" ["box"] false none F_meets_itself :=
  def_mk (N := ["box", "low"]) (fun _ => true) D0 (fun _ _ _ _ _ _ us hl => match us, hl with | [_], _ => rfl) sc_meets_itself (fun i e => nomatch e) fun f cdv B outer s H E hr hg => by
    have hgd : (B.deeper (envOfC "meets_itself" (defScope s_meets_itself) s.heap.objs.size f cdv)).guards = some [] := hg
    have hu := hr.units
    have hu65 : (B.deeper (envOfC "meets_itself" (defScope s_meets_itself) s.heap.objs.size f cdv)).units + 65 < cLine := by have := hr.un; omega
    have tk : Takes (cxOf (L2.CX P w) P w K mg base ["box", "low"] "meets_itself" (defScope s_meets_itself) f cdv B outer s H E) (fun cls dx _ H' => E cls dx H') := takes_of rfl rfl rfl rfl
    have hrcheck_box := hr.mono (show 3 ≤ 3 by decide)
    have hrdivisor := hr.mono (show 1 ≤ 3 by decide)
    exact (mss_cons (ms_expr (me_callD D_check_box tk hgd hrcheck_box (mas_cons (pv 0) mas_nil)))
    (mss_cons (ms_set (i := 1) sc_meets_itself.nd rfl (by first | exact .inl rfl | exact .inr rfl) rfl (me_callD D_divisor tk hgd hrdivisor (mas_cons (ma_ev (me_idx (pv 0) (ma_ev me_int) (fun _ _ => rfl))) (mas_cons (ma_ev (me_idx (pv 0) (ma_ev me_int) (fun _ _ => rfl))) mas_nil))))
    (mss_one (ms_ret (me_low (me_bin op_fdiv fdiv_ok (ma_ev (me_bin op_mulA mul_ok (ma_ev (me_bin op_subA sub_ok (ma_ev (me_bin op_fdiv fdiv_ok (ma_ev (me_idx (pv 0) (ma_ev me_int) (fun _ _ => rfl))) (pv 1))) (ma_ev me_int))) (ma_ev (me_bin op_subA sub_ok (ma_ev (me_bin op_fdiv fdiv_ok (ma_ev (me_idx (pv 0) (ma_ev me_int) (fun _ _ => rfl))) (pv 1))) (ma_ev me_int))))) (ma_ev me_int)))))))
abbrev s_is_side : Stmt := topS 20
theorem sc_is_side : FnScope ["box", "dot"] ["box", "dot"] (defScope s_is_side) := ⟨rfl, rfl, rfl, by decide +kernel, rfl, by decide +kernel, by decide +kernel⟩
noncomputable def b_is_side : ASt :=
  (fRet (fOrV (fAp gIn [.ev false (fAp gIdx [.vw 1, .ev false (fC (.int 0))]), .ev false (fApF gTupD [.ev false (fC (.int 0)), .ev false (fAp gIdx [.vw 0, .ev false (fC (.int 0))])])]) (fAp gIn [.ev false (fAp gIdx [.vw 1, .ev false (fC (.int 1))]), .ev false (fApF gTupD [.ev false (fC (.int 0)), .ev false (fAp gIdx [.vw 0, .ev false (fC (.int 1))])])])))
noncomputable def F_is_side : AF := runDef 2 none b_is_side
theorem ok_is_side {P : Program} {w : World} {K : PySem.W.Frag} {mg : Str → Option Value} {base : Heap} (D0 : DefAt K mg "is_side" s_is_side) :
    Def P w K mg base 1 "is_side" ["box", "dot"] false none F_is_side :=
  def_mk (N := ["box", "dot"]) (fun _ => true) D0 (fun _ _ _ _ _ _ us hl => match us, hl with | [_, _], _ => rfl) sc_is_side (fun i e => nomatch e) fun f cdv B outer s H E hr hg => by
    have hgd : (B.deeper (envOfC "is_side" (defScope s_is_side) s.heap.objs.size f cdv)).guards = some [] := hg
    have hu := hr.units
    have hu65 : (B.deeper (envOfC "is_side" (defScope s_is_side) s.heap.objs.size f cdv)).units + 65 < cLine := by have := hr.un; omega
    have tk : Takes (cxOf (L2.CX P w) P w K mg base ["box", "dot"] "is_side" (defScope s_is_side) f cdv B outer s H E) (fun cls dx _ H' => E cls dx H') := takes_of rfl rfl rfl rfl
    exact (mss_one (ms_ret (me_low (me_or (me_cmp (op_inA hu65) in_ok (ma_ev (me_idx (pv 1) (ma_ev me_int) (fun _ _ => rfl))) (ma_ev (me_tup (mas_cons (ma_ev me_int) (mas_cons (ma_ev (me_idx (pv 0) (ma_ev me_int) (fun _ _ => rfl))) mas_nil)))) (by rfl)) (me_one (me_cmp (op_inA hu65) in_ok (ma_ev (me_idx (pv 1) (ma_ev me_int) (fun _ _ => rfl))) (ma_ev (me_tup (mas_cons (ma_ev me_int) (mas_cons (ma_ev (me_idx (pv 0) (ma_ev me_int) (fun _ _ => rfl))) mas_nil)))) (by rfl)))))))
abbrev s_touched : Stmt := topS 21
theorem sc_touched : FnScope ["box", "dots", "steps", "dot"] ["box"] (defScope s_touched) := ⟨rfl, rfl, rfl, by decide +kernel, rfl, by decide +kernel, by decide +kernel⟩
noncomputable def b_touched : ASt :=
  (fSeq (fExpr (fCall F_check_box none [.vw 0]))
  (fSeq (fSet 1 true (fLc [2] (fItF gRng2 [.ev false (fC (.int 1)), .ev false (fCall F_steps_to none [.vw 0])]) (.nm 2) fYes (fCall F_dot_at none [.vw 0, .ev false (fC (.int 0)), .vw 2])))
  (fRet (fAp gTuple [.ev true (fAp gSortB [.ev true (fLc [3] (fIt (fVar 1)) (.nm 3) (fTru (.ev false (fCall F_is_side none [.vw 0, .vw 3]))) (fVar 3))])]))))
noncomputable def F_touched : AF := runDef 4 none b_touched
theorem ok_touched {P : Program} {w : World} {K : PySem.W.Frag} {mg : Str → Option Value} {base : Heap} (D0 : DefAt K mg "touched" s_touched)
    (D_check_box : Def P w K mg base 3 "check_box" ["box"] false none F_check_box)
    (D_dot_at : Def P w K mg base 2 "dot_at" ["box", "x", "steps"] false none F_dot_at)
    (D_is_side : Def P w K mg base 1 "is_side" ["box", "dot"] false none F_is_side)
    (D_steps_to : Def P w K mg base 2 "steps_to" ["box"] false none F_steps_to)
    (m_range : mg "range" = none)
    (m_sorted : mg "sorted" = none)
    (m_tuple : mg "tuple" = none) :
    Def P w K mg base 4 "touched" ["box"] false none F_touched :=
  def_mk (N := ["box", "dots", "steps", "dot"]) (fun _ => true) D0 (fun _ _ _ _ _ _ us hl => match us, hl with | [_], _ => rfl) sc_touched (fun i e => nomatch e) fun f cdv B outer s H E hr hg => by
    have hgd : (B.deeper (envOfC "touched" (defScope s_touched) s.heap.objs.size f cdv)).guards = some [] := hg
    have hu := hr.units
    have hu65 : (B.deeper (envOfC "touched" (defScope s_touched) s.heap.objs.size f cdv)).units + 65 < cLine := by have := hr.un; omega
    have tk : Takes (cxOf (L2.CX P w) P w K mg base ["box", "dots", "steps", "dot"] "touched" (defScope s_touched) f cdv B outer s H E) (fun cls dx _ H' => E cls dx H') := takes_of rfl rfl rfl rfl
    have hrcheck_box := hr.mono (show 3 ≤ 3 by decide)
    have hrdot_at := hr.mono (show 2 ≤ 3 by decide)
    have hris_side := hr.mono (show 1 ≤ 3 by decide)
    have hrsteps_to := hr.mono (show 2 ≤ 3 by decide)
    exact (mss_cons (ms_expr (me_callD D_check_box tk hgd hrcheck_box (mas_cons (pv 0) mas_nil)))
    (mss_cons (ms_setLc (own := [("steps", 2)]) (i := 1) rfl sc_touched.nd rfl rfl rfl (sw_true rfl rfl rfl (by decide +kernel)) rfl (mi_range2 m_range (ma_ev me_int) (ma_ev (me_callD D_steps_to tk hgd hrsteps_to (mas_cons (pv 0) mas_nil)))) (blkOk_by (N := ["box", "dots", "steps", "dot"]) (sc := defScope s_touched) (by decide +kernel)) (fun _ _ _ _ _ => (mg_nm sc_touched.nd rfl (by first | exact .inl rfl | exact .inr rfl))) (fun _ _ _ _ _ => mts_nil) (fun _ _ _ _ _ => (me_callD D_dot_at takes0 hgd hrdot_at (mas_cons (pv 0) (mas_cons (ma_ev me_int) (mas_cons (pv 2) mas_nil))))))
    (mss_one (ms_ret (me_low (me_biT tuple_ok call_tuple_of m_tuple (by decide +kernel) (mas_cons (ma_ev (me_bi sortB_ok (cr_sortB hu65) m_sorted (by decide +kernel) (mas_cons (ma_ev (me_lc (own := [("dot", 3)]) rfl sc_touched.nd rfl (mi_ev (me_var (pv 1))) (blkOk_by (N := ["box", "dots", "steps", "dot"]) (sc := defScope s_touched) (by decide +kernel)) (fun _ _ _ _ _ => (mg_nm sc_touched.nd rfl (by first | exact .inl rfl | exact .inr rfl))) (fun _ _ _ _ _ => (mts_one (mt_tru (ma_ev (me_callD D_is_side takes0 hgd hris_side (mas_cons (pv 0) (mas_cons (pv 3) mas_nil))))))) (fun _ _ _ _ _ => (me_var (pv 3))))) mas_nil))) mas_nil)))))))
abbrev s_like_way : Stmt := topS 22
theorem sc_like_way : FnScope ["one", "other"] ["one", "other"] (defScope s_like_way) := ⟨rfl, rfl, rfl, by decide +kernel, rfl, by decide +kernel, by decide +kernel⟩
noncomputable def b_like_way : ASt :=
  (fSeq (fExpr (fCall F_check_box none [.vw 0]))
  (fSeq (fExpr (fCall F_check_box none [.vw 1]))
  (fRet (fAp gEq [.ev true (fAp gMul [.ev false (fAp gIdx [.vw 0, .ev false (fC (.int 0))]), .ev false (fAp gIdx [.vw 1, .ev false (fC (.int 1))])]), .ev true (fAp gMul [.ev false (fAp gIdx [.vw 0, .ev false (fC (.int 1))]), .ev false (fAp gIdx [.vw 1, .ev false (fC (.int 0))])])]))))
noncomputable def F_like_way : AF := runDef 2 none b_like_way
theorem ok_like_way {P : Program} {w : World} {K : PySem.W.Frag} {mg : Str → Option Value} {base : Heap} (D0 : DefAt K mg "like_way" s_like_way)
    (D_check_box : Def P w K mg base 3 "check_box" ["box"] false none F_check_box) :
    Def P w K mg base 4 "like_way" ["one", "other"] false none F_like_way :=
  def_mk (N := ["one", "other"]) (fun _ => true) D0 (fun _ _ _ _ _ _ us hl => match us, hl with | [_, _], _ => rfl) sc_like_way (fun i e => nomatch e) fun f cdv B outer s H E hr hg => by
    have hgd : (B.deeper (envOfC "like_way" (defScope s_like_way) s.heap.objs.size f cdv)).guards = some [] := hg
    have hu := hr.units
    have hu65 : (B.deeper (envOfC "like_way" (defScope s_like_way) s.heap.objs.size f cdv)).units + 65 < cLine := by have := hr.un; omega
    have tk : Takes (cxOf (L2.CX P w) P w K mg base ["one", "other"] "like_way" (defScope s_like_way) f cdv B outer s H E) (fun cls dx _ H' => E cls dx H') := takes_of rfl rfl rfl rfl
    have hrcheck_box := hr.mono (show 3 ≤ 3 by decide)
    exact (mss_cons (ms_expr (me_callD D_check_box tk hgd hrcheck_box (mas_cons (pv 0) mas_nil)))
    (mss_cons (ms_expr (me_callD D_check_box tk hgd hrcheck_box (mas_cons (pv 1) mas_nil)))
    (mss_one (ms_ret (me_low (me_cmp (op_eqA hu) eq_ok (ma_ev (me_bin op_mulA mul_ok (ma_ev (me_idx (pv 0) (ma_ev me_int) (fun _ _ => rfl))) (ma_ev (me_idx (pv 1) (ma_ev me_int) (fun _ _ => rfl))))) (ma_ev (me_bin op_mulA mul_ok (ma_ev (me_idx (pv 0) (ma_ev me_int) (fun _ _ => rfl))) (ma_ev (me_idx (pv 1) (ma_ev me_int) (fun _ _ => rfl))))) (nomark _)))))))
abbrev s__law_hand : Stmt := topS 24
theorem sc__law_hand : FnScope ["script", "cells", "cell"] ["script"] (defScope s__law_hand) := ⟨rfl, rfl, rfl, by decide +kernel, rfl, by decide +kernel, by decide +kernel⟩
noncomputable def b__law_hand : ASt :=
  (fSeq (fSet 1 true (fLc [2] (fIt (fAp (gSl false true) [.vw 0, .ev false (fC (.int 63))])) (.nm 2) fYes (fAp gAbs [.ev true (fAp gInt [.vw 2])])))
  (fRet (fApF gLstD [.ev false (fVar 1), .ev false (fC (.int 0)), .ev false (fC (.int 0)), .ev true (fAp gAdd [.ev false (fC (.int 487)), .ev true (fAp gMul [.ev false (fC (.int 79)), .ev true (fAp gLen [.vw 1])])]), .ev false (fC (.int 0))])))
noncomputable def F__law_hand : AF := runDef 3 none b__law_hand
theorem ok__law_hand {P : Program} {w : World} {K : PySem.W.Frag} {mg : Str → Option Value} {base : Heap} (D0 : DefAt K mg "_law_hand" s__law_hand)
    (m_abs : mg "abs" = none)
    (m_int : mg "int" = none)
    (m_len : mg "len" = none) :
    Def P w K mg base 1 "_law_hand" ["script"] true none F__law_hand :=
  def_mk (N := ["script", "cells", "cell"]) (fun _ => true) D0 (fun _ _ _ _ _ _ us hl => match us, hl with | [_], _ => rfl) sc__law_hand (fun i e => nomatch e) fun f cdv B outer s H E hr hg => by
    have hgd : (B.deeper (envOfC "_law_hand" (defScope s__law_hand) s.heap.objs.size f cdv)).guards = some [] := hg
    have hu := hr.units
    have hu65 : (B.deeper (envOfC "_law_hand" (defScope s__law_hand) s.heap.objs.size f cdv)).units + 65 < cLine := by have := hr.un; omega
    have tk : Takes (cxOf (L2.CX P w) P w K mg base ["script", "cells", "cell"] "_law_hand" (defScope s__law_hand) f cdv B outer s H E) (fun cls dx _ H' => E cls dx H') := takes_of rfl rfl rfl rfl
    exact (mss_cons (ms_setLc (own := [("cell", 2)]) (i := 1) rfl sc__law_hand.nd rfl rfl rfl (sw_true rfl rfl rfl (by decide +kernel)) rfl (mi_ev (me_sliceH (pv 0) (ma_ev me_int))) (blkOk_by (N := ["script", "cells", "cell"]) (sc := defScope s__law_hand) (by decide +kernel)) (fun _ _ _ _ _ => (mg_nm sc__law_hand.nd rfl (by first | exact .inl rfl | exact .inr rfl))) (fun _ _ _ _ _ => mts_nil) (fun _ _ _ _ _ => (me_bi abs_ok call_abs m_abs (by decide +kernel) (mas_cons (ma_ev (me_biT int_ok call_int1 m_int (by decide +kernel) (mas_cons (pv 2) mas_nil))) mas_nil))))
    (mss_one (ms_ret (me_lst (mas_cons (ma_ev (me_var (pv 1))) (mas_cons (ma_ev me_int) (mas_cons (ma_ev me_int) (mas_cons (ma_ev (me_bin op_addA add_ok (ma_ev me_int) (ma_ev (me_bin op_mulA mul_ok (ma_ev me_int) (ma_ev (me_bi len_ok call_len m_len (by decide +kernel) (mas_cons (pv 1) mas_nil))))))) (mas_cons (ma_ev me_int) mas_nil)))))))))
abbrev s__law_draw : Stmt := topS 25
theorem sc__law_draw : FnScope ["hand", "sides", "cell", "digit", "number"] ["hand", "sides"] (defScope s__law_draw) := ⟨rfl, rfl, rfl, by decide +kernel, rfl, by decide +kernel, by decide +kernel⟩
noncomputable def b__law_draw : ASt :=
  (fSeq (fIfS (fAndT (fTb (fAp gEq [.ev false (fAp gIdx [.vw 0, .ev false (fC (.int 2))]), .ev false (fC (.int 0))])) (fTb (fAp gLt [.ev false (fAp gIdx [.vw 0, .ev false (fC (.int 1))]), .ev true (fAp gLen [.ev false (fAp gIdx [.vw 0, .ev false (fC (.int 0))])])]))) (fSeq (fSet 2 false (fAp gIdx [.ev false (fAp gIdx [.vw 0, .ev false (fC (.int 0))]), .ev false (fAp gIdx [.vw 0, .ev false (fC (.int 1))])]))
  (fSeq (fStore 0 gSetL (fAp gAdd [.ev false (fAp gIdx [.vw 0, .ev false (fC (.int 1))]), .ev false (fC (.int 1))]) (.ev false (fC (.int 1))))
  (fSeq (fStore 0 gSetL (fAp gMod [.ev true (fAp gInt [.ev true (fAp gAdd [.ev true (fAp gAdd [.ev true (fAp gMul [.ev false (fAp gIdx [.vw 0, .ev false (fC (.int 3))]), .ev false (fC (.int 69621))]), .vw 2]), .ev false (fC (.int 29))])]), .ev false (fC (.int 2147483629))]) (.ev false (fC (.int 3))))
  (fIfS (fTb (fAp gGe [.vw 2, .ev true (fAp gPow [.ev false (fC (.int 10)), .ev false (fC (.int 18))])])) (fStore 0 gSetL (fVar 2) (.ev false (fC (.int 2)))) fNext)))) fNext)
  (fSeq (fIfS (fTb (fAp gGt [.ev false (fAp gIdx [.vw 0, .ev false (fC (.int 2))]), .ev false (fC (.int 0))])) (fSeq (fSet 3 true (fAp gMod [.ev true (fAp gInt [.ev false (fAp gIdx [.vw 0, .ev false (fC (.int 2))])]), .vw 1]))
  (fSeq (fStore 0 gSetL (fAp gFdiv [.ev false (fAp gIdx [.vw 0, .ev false (fC (.int 2))]), .vw 1]) (.ev false (fC (.int 2))))
  (fRet (fVar 3)))) fNext)
  (fSeq (fStore 0 gSetL (fAp gAdd [.ev false (fAp gIdx [.vw 0, .ev false (fC (.int 4))]), .ev false (fC (.int 1))]) (.ev false (fC (.int 4))))
  (fSeq (fSet 4 true (fAp gMod [.ev true (fAp gInt [.ev true (fAp gMul [.ev true (fAp gInt [.ev true (fAp gAdd [.ev false (fAp gIdx [.vw 0, .ev false (fC (.int 3))]), .ev true (fAp gMul [.ev false (fC (.int 7919)), .ev false (fAp gIdx [.vw 0, .ev false (fC (.int 4))])])])]), .ev false (fC (.int 48271))])]), .ev false (fC (.int 2147483647))]))
  (fSeq (fSet 4 true (fAp gMod [.ev true (fAp gInt [.ev true (fAp gMul [.vw 4, .ev true (fAp gAdd [.ev true (fAp gFdiv [.vw 4, .ev false (fC (.int 1009))]), .ev false (fC (.int 69621))])])]), .ev false (fC (.int 2147483647))]))
  (fSeq (fSet 4 true (fAp gMod [.ev true (fAp gInt [.ev true (fAp gMul [.vw 4, .ev true (fAp gAdd [.ev true (fAp gFdiv [.vw 4, .ev false (fC (.int 2003))]), .ev false (fC (.int 40692))])])]), .ev false (fC (.int 2147483399))]))
  (fRet (fAp gMod [.ev true (fAp gInt [.ev true (fAp gFdiv [.vw 4, .ev false (fC (.int 16))])]), .vw 1]))))))))
noncomputable def F__law_draw : AF := runDef 5 (some 0) b__law_draw
theorem ok__law_draw {P : Program} {w : World} {K : PySem.W.Frag} {mg : Str → Option Value} {base : Heap} (D0 : DefAt K mg "_law_draw" s__law_draw)
    (m_int : mg "int" = none)
    (m_len : mg "len" = none) :
    Def P w K mg base 1 "_law_draw" ["hand", "sides"] false (some 0) F__law_draw :=
  def_mk (N := ["hand", "sides", "cell", "digit", "number"]) (fun i => i != 0) D0 (fun _ _ _ _ _ _ us hl => match us, hl with | [_, _], _ => rfl) sc__law_draw (fun i e => by cases e; rfl) fun f cdv B outer s H E hr hg => by
    have hgd : (B.deeper (envOfC "_law_draw" (defScope s__law_draw) s.heap.objs.size f cdv)).guards = some [] := hg
    have hu := hr.units
    have hu65 : (B.deeper (envOfC "_law_draw" (defScope s__law_draw) s.heap.objs.size f cdv)).units + 65 < cLine := by have := hr.un; omega
    have tk : Takes (cxOf (L2.CX P w) P w K mg base ["hand", "sides", "cell", "digit", "number"] "_law_draw" (defScope s__law_draw) f cdv B outer s H E) (fun cls dx _ H' => E cls dx H') := takes_of rfl rfl rfl rfl
    exact (mss_cons (ms_if (mt_w (mw_and (mt_cmp (op_eqA hu) eq_ok (ma_ev (me_idx (pv 0) (ma_ev me_int) (fun _ _ => rfl))) (ma_ev me_int) (nomark _)) (mw_and1 (mt_cmp op_ltA lt_ok (ma_ev (me_idx (pv 0) (ma_ev me_int) (fun _ _ => rfl))) (ma_ev (me_bi len_ok call_len m_len (by decide +kernel) (mas_cons (ma_ev (me_idx (pv 0) (ma_ev me_int) (fun _ _ => rfl))) mas_nil))) (nomark _))))) (mss_cons (ms_set (i := 2) sc__law_draw.nd rfl (by first | exact .inl rfl | exact .inr rfl) rfl (me_idx (ma_ev (me_idx (pv 0) (ma_ev me_int) (fun _ _ => rfl))) (ma_ev (me_idx (pv 0) (ma_ev me_int) (fun _ _ => rfl))) (fun _ _ => rfl)))
    (mss_cons (ms_setL (me_bin op_addA add_ok (ma_ev (me_idx (pv 0) (ma_ev me_int) (fun _ _ => rfl))) (ma_ev me_int)) (pv 0) (ma_ev me_int))
    (mss_cons (ms_setL (me_bin op_mod mod_ok (ma_ev (me_biT int_ok call_int1 m_int (by decide +kernel) (mas_cons (ma_ev (me_bin op_addA add_ok (ma_ev (me_bin op_addA add_ok (ma_ev (me_bin op_mulA mul_ok (ma_ev (me_idx (pv 0) (ma_ev me_int) (fun _ _ => rfl))) (ma_ev me_int))) (pv 2))) (ma_ev me_int))) mas_nil))) (ma_ev me_int)) (pv 0) (ma_ev me_int))
    (mss_one (ms_if (mt_cmp op_geA ge_ok (pv 2) (ma_ev (me_bin op_pow pow_ok (ma_ev me_int) (ma_ev me_int))) (nomark _)) (mss_one (ms_setL (me_var (pv 2)) (pv 0) (ma_ev me_int))) mss_nil))))) mss_nil)
    (mss_cons (ms_if (mt_cmp op_gtA gt_ok (ma_ev (me_idx (pv 0) (ma_ev me_int) (fun _ _ => rfl))) (ma_ev me_int) (nomark _)) (mss_cons (ms_set (i := 3) sc__law_draw.nd rfl (by first | exact .inl rfl | exact .inr rfl) rfl (me_bin op_mod mod_ok (ma_ev (me_biT int_ok call_int1 m_int (by decide +kernel) (mas_cons (ma_ev (me_idx (pv 0) (ma_ev me_int) (fun _ _ => rfl))) mas_nil))) (pv 1)))
    (mss_cons (ms_setL (me_bin op_fdiv fdiv_ok (ma_ev (me_idx (pv 0) (ma_ev me_int) (fun _ _ => rfl))) (pv 1)) (pv 0) (ma_ev me_int))
    (mss_one (ms_ret (me_var (pv 3)))))) mss_nil)
    (mss_cons (ms_setL (me_bin op_addA add_ok (ma_ev (me_idx (pv 0) (ma_ev me_int) (fun _ _ => rfl))) (ma_ev me_int)) (pv 0) (ma_ev me_int))
    (mss_cons (ms_set (i := 4) sc__law_draw.nd rfl (by first | exact .inl rfl | exact .inr rfl) rfl (me_bin op_mod mod_ok (ma_ev (me_biT int_ok call_int1 m_int (by decide +kernel) (mas_cons (ma_ev (me_bin op_mulA mul_ok (ma_ev (me_biT int_ok call_int1 m_int (by decide +kernel) (mas_cons (ma_ev (me_bin op_addA add_ok (ma_ev (me_idx (pv 0) (ma_ev me_int) (fun _ _ => rfl))) (ma_ev (me_bin op_mulA mul_ok (ma_ev me_int) (ma_ev (me_idx (pv 0) (ma_ev me_int) (fun _ _ => rfl))))))) mas_nil))) (ma_ev me_int))) mas_nil))) (ma_ev me_int)))
    (mss_cons (ms_set (i := 4) sc__law_draw.nd rfl (by first | exact .inl rfl | exact .inr rfl) rfl (me_bin op_mod mod_ok (ma_ev (me_biT int_ok call_int1 m_int (by decide +kernel) (mas_cons (ma_ev (me_bin op_mulA mul_ok (pv 4) (ma_ev (me_bin op_addA add_ok (ma_ev (me_bin op_fdiv fdiv_ok (pv 4) (ma_ev me_int))) (ma_ev me_int))))) mas_nil))) (ma_ev me_int)))
    (mss_cons (ms_set (i := 4) sc__law_draw.nd rfl (by first | exact .inl rfl | exact .inr rfl) rfl (me_bin op_mod mod_ok (ma_ev (me_biT int_ok call_int1 m_int (by decide +kernel) (mas_cons (ma_ev (me_bin op_mulA mul_ok (pv 4) (ma_ev (me_bin op_addA add_ok (ma_ev (me_bin op_fdiv fdiv_ok (pv 4) (ma_ev me_int))) (ma_ev me_int))))) mas_nil))) (ma_ev me_int)))
    (mss_one (ms_ret (me_low (me_bin op_mod mod_ok (ma_ev (me_biT int_ok call_int1 m_int (by decide +kernel) (mas_cons (ma_ev (me_bin op_fdiv fdiv_ok (pv 4) (ma_ev me_int))) mas_nil))) (pv 1)))))))))))
abbrev s__law_some : Stmt := topS 26
theorem sc__law_some : FnScope ["hand", "things"] ["hand", "things"] (defScope s__law_some) := ⟨rfl, rfl, rfl, by decide +kernel, rfl, by decide +kernel, by decide +kernel⟩
noncomputable def b__law_some : ASt :=
  (fRet (fAp gIdx [.vw 1, .ev false (fCall F__law_draw (some 0) [.vw 0, .ev true (fAp gLen [.vw 1])])]))
noncomputable def F__law_some : AF := runDef 2 (some 0) b__law_some
theorem ok__law_some {P : Program} {w : World} {K : PySem.W.Frag} {mg : Str → Option Value} {base : Heap} (D0 : DefAt K mg "_law_some" s__law_some)
    (D__law_draw : Def P w K mg base 1 "_law_draw" ["hand", "sides"] false (some 0) F__law_draw)
    (m_len : mg "len" = none) :
    Def P w K mg base 2 "_law_some" ["hand", "things"] false (some 0) F__law_some :=
  def_mk (N := ["hand", "things"]) (fun i => i != 0) D0 (fun _ _ _ _ _ _ us hl => match us, hl with | [_, _], _ => rfl) sc__law_some (fun i e => by cases e; rfl) fun f cdv B outer s H E hr hg => by
    have hgd : (B.deeper (envOfC "_law_some" (defScope s__law_some) s.heap.objs.size f cdv)).guards = some [] := hg
    have hu := hr.units
    have hu65 : (B.deeper (envOfC "_law_some" (defScope s__law_some) s.heap.objs.size f cdv)).units + 65 < cLine := by have := hr.un; omega
    have tk : Takes (cxOf (L2.CX P w) P w K mg base ["hand", "things"] "_law_some" (defScope s__law_some) f cdv B outer s H E) (fun cls dx _ H' => E cls dx H') := takes_of rfl rfl rfl rfl
    have hr_law_draw := hr.mono (show 1 ≤ 1 by decide)
    exact (mss_one (ms_ret (me_idx (pv 1) (ma_ev (me_callD D__law_draw tk hgd hr_law_draw (mas_cons (pv 0) (mas_cons (ma_ev (me_bi len_ok call_len m_len (by decide +kernel) (mas_cons (pv 1) mas_nil))) mas_nil)))) (fun _ _ => rfl))))
abbrev s__law_is : Stmt := topS 27
theorem sc__law_is : FnScope ["one", "other", "mine", "yours", "key"] ["one", "other"] (defScope s__law_is) := ⟨rfl, rfl, rfl, by decide +kernel, rfl, by decide +kernel, by decide +kernel⟩
noncomputable def b__law_is (R : AF) : ASt :=
  (fSeq (fIfS (fOrT (fTru (.ev true (fAp (gIs8 .bool) [.vw 0]))) (fTru (.ev true (fAp (gIs8 .bool) [.vw 1])))) (fRet (fAndV (fAp (gIs8 .bool) [.vw 0]) (fAndV (fAp (gIs8 .bool) [.vw 1]) (fAp gEq [.vw 0, .vw 1])))) fNext)
  (fSeq (fIfS (fOrT (fTru (.ev true (fAp (gIs8 .tuple) [.vw 0]))) (fTru (.ev true (fAp (gIs8 .list) [.vw 0])))) (fSeq (fIfS (fOrT (fTb (fAp gNe [.ev true (fAp (gIs8 .tuple) [.vw 0]), .ev true (fAp (gIs8 .tuple) [.vw 1])])) (fTb (fAp gNe [.ev true (fAp (gIs8 .list) [.vw 0]), .ev true (fAp (gIs8 .list) [.vw 1])]))) (fRet (fC (.bl false))) fNext)
  (fRet (fAndV (fAp gEq [.ev true (fAp gLen [.vw 0]), .ev true (fAp gLen [.vw 1])]) (fAp gAll [.ev true (fLc [2, 3] (fItP gZip [.vw 0, .vw 1]) (.tp (.cons (.nm 2) (.cons (.nm 3) .nil))) fYes (fCall R none [.vw 2, .vw 3]))])))) fNext)
  (fSeq (fIfS (fTru (.ev true (fAp (gIs8 .dict) [.vw 0]))) (fSeq (fIfS (fOrT (fNotT (fTru (.ev true (fAp (gIs8 .dict) [.vw 1])))) (fTb (fAp gNe [.ev true (fAp gLen [.vw 0]), .ev true (fAp gLen [.vw 1])]))) (fRet (fC (.bl false))) fNext)
  (fRet (fAp gAll [.ev true (fLc [4] (fItV 0) (.nm 4) fYes (fAndV (fAp gIn [.vw 4, .vw 1]) (fCall R none [.ev false (fAp gIdx [.vw 0, .vw 4]), .ev false (fAp gIdx [.vw 1, .vw 4])])))]))) fNext)
  (fRet (fAndV (fAp gEq [.ev true (fAp (gIs8 .int) [.vw 0]), .ev true (fAp (gIs8 .int) [.vw 1])]) (fAp gEq [.vw 0, .vw 1]))))))
noncomputable def z__law_is : ASt :=
  (fSeq fNever
  (fSeq fNever
  (fSeq fNever
  fNever)))
noncomputable def F__law_is : Nat → AF
  | 0 => runDef 5 none z__law_is
  | n + 1 => runDef 5 none (b__law_is (F__law_is n))
theorem ok0__law_is {P : Program} {w : World} {K : PySem.W.Frag} {mg : Str → Option Value} {base : Heap} (D0 : DefAt K mg "_law_is" s__law_is)
    (m_all : mg "all" = none)
    (m_bool : mg "bool" = none)
    (m_dict : mg "dict" = none)
    (m_int : mg "int" = none)
    (m_isinstance : mg "isinstance" = none)
    (m_len : mg "len" = none)
    (m_list : mg "list" = none)
    (m_tuple : mg "tuple" = none)
    (m_zip : mg "zip" = none) :
    Def P w K mg base 1 "_law_is" ["one", "other"] false none (runDef 5 none z__law_is) :=
  def_mk (N := ["one", "other", "mine", "yours", "key"]) (fun _ => true) D0 (fun _ _ _ _ _ _ us hl => match us, hl with | [_, _], _ => rfl) sc__law_is (fun i e => nomatch e) fun f cdv B outer s H E hr hg => by
    have hgd : (B.deeper (envOfC "_law_is" (defScope s__law_is) s.heap.objs.size f cdv)).guards = some [] := hg
    have hu := hr.units
    have hu65 : (B.deeper (envOfC "_law_is" (defScope s__law_is) s.heap.objs.size f cdv)).units + 65 < cLine := by have := hr.un; omega
    have tk : Takes (cxOf (L2.CX P w) P w K mg base ["one", "other", "mine", "yours", "key"] "_law_is" (defScope s__law_is) f cdv B outer s H E) (fun cls dx _ H' => E cls dx H') := takes_of rfl rfl rfl rfl
    exact (mss_cons ms_never
    (mss_cons ms_never
    (mss_cons ms_never
    (mss_one ms_never))))
theorem ok1__law_is {P : Program} {w : World} {K : PySem.W.Frag} {mg : Str → Option Value} {base : Heap} (D0 : DefAt K mg "_law_is" s__law_is)
    (m_all : mg "all" = none)
    (m_bool : mg "bool" = none)
    (m_dict : mg "dict" = none)
    (m_int : mg "int" = none)
    (m_isinstance : mg "isinstance" = none)
    (m_len : mg "len" = none)
    (m_list : mg "list" = none)
    (m_tuple : mg "tuple" = none)
    (m_zip : mg "zip" = none) {n : Nat} {R : AF} (D_R : Def P w K mg base (1 + n) "_law_is" ["one", "other"] false none R) :
    Def P w K mg base (1 + n + 1) "_law_is" ["one", "other"] false none (runDef 5 none (b__law_is R)) :=
  def_mk (N := ["one", "other", "mine", "yours", "key"]) (fun _ => true) D0 (fun _ _ _ _ _ _ us hl => match us, hl with | [_, _], _ => rfl) sc__law_is (fun i e => nomatch e) fun f cdv B outer s H E hr hg => by
    have hgd : (B.deeper (envOfC "_law_is" (defScope s__law_is) s.heap.objs.size f cdv)).guards = some [] := hg
    have hu := hr.units
    have hu65 : (B.deeper (envOfC "_law_is" (defScope s__law_is) s.heap.objs.size f cdv)).units + 65 < cLine := by have := hr.un; omega
    have tk : Takes (cxOf (L2.CX P w) P w K mg base ["one", "other", "mine", "yours", "key"] "_law_is" (defScope s__law_is) f cdv B outer s H E) (fun cls dx _ H' => E cls dx H') := takes_of rfl rfl rfl rfl
    have hrR := hr
    exact (mss_cons (ms_if (mt_w (mw_or (mt_tru (ma_ev (me_isi (T := .bool) (pv 0) m_isinstance m_bool (by decide +kernel)))) (mw_or1 (mt_tru (ma_ev (me_isi (T := .bool) (pv 1) m_isinstance m_bool (by decide +kernel))))))) (mss_one (ms_ret (me_low (me_and (me_isi (T := .bool) (pv 0) m_isinstance m_bool (by decide +kernel)) (me_and (me_isi (T := .bool) (pv 1) m_isinstance m_bool (by decide +kernel)) (me_one (me_cmp (op_eqA hu) eq_ok (pv 0) (pv 1) (nomark _)))))))) mss_nil)
    (mss_cons (ms_if (mt_w (mw_or (mt_tru (ma_ev (me_isi (T := .tuple) (pv 0) m_isinstance m_tuple (by decide +kernel)))) (mw_or1 (mt_tru (ma_ev (me_isi (T := .list) (pv 0) m_isinstance m_list (by decide +kernel))))))) (mss_cons (ms_if (mt_w (mw_or (mt_cmp (op_neA hu) ne_ok (ma_ev (me_isi (T := .tuple) (pv 0) m_isinstance m_tuple (by decide +kernel))) (ma_ev (me_isi (T := .tuple) (pv 1) m_isinstance m_tuple (by decide +kernel))) (nomark _)) (mw_or1 (mt_cmp (op_neA hu) ne_ok (ma_ev (me_isi (T := .list) (pv 0) m_isinstance m_list (by decide +kernel))) (ma_ev (me_isi (T := .list) (pv 1) m_isinstance m_list (by decide +kernel))) (nomark _))))) (mss_one (ms_ret me_bl)) mss_nil)
    (mss_one (ms_ret (me_low (me_and (me_cmp (op_eqA hu) eq_ok (ma_ev (me_bi len_ok call_len m_len (by decide +kernel) (mas_cons (pv 0) mas_nil))) (ma_ev (me_bi len_ok call_len m_len (by decide +kernel) (mas_cons (pv 1) mas_nil))) (nomark _)) (me_one (me_bi all_ok (cr_all rfl) m_all (by decide +kernel) (mas_cons (ma_ev (me_lc (own := [("mine", 2), ("yours", 3)]) rfl sc__law_is.nd rfl (mi_zip m_zip (pv 0) (pv 1)) (blkOk_by (N := ["one", "other", "mine", "yours", "key"]) (sc := defScope s__law_is) (by decide +kernel)) (fun _ _ _ _ _ => (mg_tp rfl (mgt_cons (mg_nm sc__law_is.nd rfl (by first | exact .inl rfl | exact .inr rfl)) (mgt_cons (mg_nm sc__law_is.nd rfl (by first | exact .inl rfl | exact .inr rfl)) mgt_nil)))) (fun _ _ _ _ _ => mts_nil) (fun _ _ _ _ _ => (me_callD D_R takes0 hgd hrR (mas_cons (pv 2) (mas_cons (pv 3) mas_nil)))))) mas_nil)))))))) mss_nil)
    (mss_cons (ms_if (mt_tru (ma_ev (me_isi (T := .dict) (pv 0) m_isinstance m_dict (by decide +kernel)))) (mss_cons (ms_if (mt_w (mw_or (mt_not (mt_tru (ma_ev (me_isi (T := .dict) (pv 1) m_isinstance m_dict (by decide +kernel))))) (mw_or1 (mt_cmp (op_neA hu) ne_ok (ma_ev (me_bi len_ok call_len m_len (by decide +kernel) (mas_cons (pv 0) mas_nil))) (ma_ev (me_bi len_ok call_len m_len (by decide +kernel) (mas_cons (pv 1) mas_nil))) (nomark _))))) (mss_one (ms_ret me_bl)) mss_nil)
    (mss_one (ms_ret (me_low (me_bi all_ok (cr_all rfl) m_all (by decide +kernel) (mas_cons (ma_ev (me_lc (own := [("key", 4)]) rfl sc__law_is.nd rfl (mi_v (pv 0)) (blkOk_by (N := ["one", "other", "mine", "yours", "key"]) (sc := defScope s__law_is) (by decide +kernel)) (fun _ _ _ _ _ => (mg_nm sc__law_is.nd rfl (by first | exact .inl rfl | exact .inr rfl))) (fun _ _ _ _ _ => mts_nil) (fun _ _ _ _ _ => (me_and (me_cmp (op_inA hu65) in_ok (pv 4) (pv 1) (by rfl)) (me_one (me_callD D_R takes0 hgd hrR (mas_cons (ma_ev (me_idx (pv 0) (pv 4) (fun _ _ => rfl))) (mas_cons (ma_ev (me_idx (pv 1) (pv 4) (fun _ _ => rfl))) mas_nil)))))))) mas_nil)))))) mss_nil)
    (mss_one (ms_ret (me_low (me_and (me_cmp (op_eqA hu) eq_ok (ma_ev (me_isi (T := .int) (pv 0) m_isinstance m_int (by decide +kernel))) (ma_ev (me_isi (T := .int) (pv 1) m_isinstance m_int (by decide +kernel))) (nomark _)) (me_one (me_cmp (op_eqA hu) eq_ok (pv 0) (pv 1) (nomark _))))))))))
theorem ok__law_is {P : Program} {w : World} {K : PySem.W.Frag} {mg : Str → Option Value} {base : Heap} (D0 : DefAt K mg "_law_is" s__law_is)
    (m_all : mg "all" = none)
    (m_bool : mg "bool" = none)
    (m_dict : mg "dict" = none)
    (m_int : mg "int" = none)
    (m_isinstance : mg "isinstance" = none)
    (m_len : mg "len" = none)
    (m_list : mg "list" = none)
    (m_tuple : mg "tuple" = none)
    (m_zip : mg "zip" = none) : ∀ n, Def P w K mg base (1 + n) "_law_is" ["one", "other"] false none (F__law_is n)
  | 0 => ok0__law_is D0 m_all m_bool m_dict m_int m_isinstance m_len m_list m_tuple m_zip
  | n + 1 => ok1__law_is D0 m_all m_bool m_dict m_int m_isinstance m_len m_list m_tuple m_zip (ok__law_is D0 m_all m_bool m_dict m_int m_isinstance m_len m_list m_tuple m_zip n)
abbrev s__law_common : Stmt := topS 28
theorem sc__law_common : FnScope ["one", "other"] ["one", "other"] (defScope s__law_common) := ⟨rfl, rfl, rfl, by decide +kernel, rfl, by decide +kernel, by decide +kernel⟩
noncomputable def b__law_common : ASt :=
  (fSeq (fWhile 1000000000 (fTb (fAp gNe [.vw 1, .ev false (fC (.int 0))])) (fPar [0, 1] [(false, (fVar 1)), (true, (fAp gMod [.ev true (fAp gInt [.vw 0]), .ev true (fAp gInt [.vw 1])]))]))
  (fRet (fVar 0)))
noncomputable def F__law_common : AF := runDef 2 none b__law_common
theorem ok__law_common {P : Program} {w : World} {K : PySem.W.Frag} {mg : Str → Option Value} {base : Heap} (D0 : DefAt K mg "_law_common" s__law_common)
    (m_int : mg "int" = none) :
    Def P w K mg base 1 "_law_common" ["one", "other"] false none F__law_common :=
  def_mk (N := ["one", "other"]) (fun _ => true) D0 (fun _ _ _ _ _ _ us hl => match us, hl with | [_, _], _ => rfl) sc__law_common (fun i e => nomatch e) fun f cdv B outer s H E hr hg => by
    have hgd : (B.deeper (envOfC "_law_common" (defScope s__law_common) s.heap.objs.size f cdv)).guards = some [] := hg
    have hu := hr.units
    have hu65 : (B.deeper (envOfC "_law_common" (defScope s__law_common) s.heap.objs.size f cdv)).units + 65 < cLine := by have := hr.un; omega
    have tk : Takes (cxOf (L2.CX P w) P w K mg base ["one", "other"] "_law_common" (defScope s__law_common) f cdv B outer s H E) (fun cls dx _ H' => E cls dx H') := takes_of rfl rfl rfl rfl
    exact (mss_cons (ms_while 1000000000 (passes_of rfl) (mt_cmp (op_neA hu) ne_ok (pv 1) (ma_ev me_int) (nomark _)) (mss_one (ms_par2 (i := 0) (j := 1) rfl sc__law_common.nd rfl rfl (by decide) rfl rfl rfl rfl (me_var (pv 1)) (me_bin op_mod mod_ok (ma_ev (me_biT int_ok call_int1 m_int (by decide +kernel) (mas_cons (pv 0) mas_nil))) (ma_ev (me_biT int_ok call_int1 m_int (by decide +kernel) (mas_cons (pv 1) mas_nil)))) rfl)))
    (mss_one (ms_ret (me_var (pv 0)))))
abbrev s__law_at : Stmt := topS 29
theorem sc__law_at : FnScope ["long", "steps", "here"] ["long", "steps"] (defScope s__law_at) := ⟨rfl, rfl, rfl, by decide +kernel, rfl, by decide +kernel, by decide +kernel⟩
noncomputable def b__law_at : ASt :=
  (fSeq (fSet 2 true (fAp gMod [.ev true (fAp gInt [.vw 1]), .ev true (fAp gMul [.ev false (fC (.int 2)), .vw 0])]))
  (fRet (fIfE (fTb (fAp gLe [.vw 2, .vw 0])) (fVar 2) (fAp gSub [.ev true (fAp gMul [.ev false (fC (.int 2)), .vw 0]), .vw 2]))))
noncomputable def F__law_at : AF := runDef 3 none b__law_at
theorem ok__law_at {P : Program} {w : World} {K : PySem.W.Frag} {mg : Str → Option Value} {base : Heap} (D0 : DefAt K mg "_law_at" s__law_at)
    (m_int : mg "int" = none) :
    Def P w K mg base 1 "_law_at" ["long", "steps"] false none F__law_at :=
  def_mk (N := ["long", "steps", "here"]) (fun _ => true) D0 (fun _ _ _ _ _ _ us hl => match us, hl with | [_, _], _ => rfl) sc__law_at (fun i e => nomatch e) fun f cdv B outer s H E hr hg => by
    have hgd : (B.deeper (envOfC "_law_at" (defScope s__law_at) s.heap.objs.size f cdv)).guards = some [] := hg
    have hu := hr.units
    have hu65 : (B.deeper (envOfC "_law_at" (defScope s__law_at) s.heap.objs.size f cdv)).units + 65 < cLine := by have := hr.un; omega
    have tk : Takes (cxOf (L2.CX P w) P w K mg base ["long", "steps", "here"] "_law_at" (defScope s__law_at) f cdv B outer s H E) (fun cls dx _ H' => E cls dx H') := takes_of rfl rfl rfl rfl
    exact (mss_cons (ms_set (i := 2) sc__law_at.nd rfl (by first | exact .inl rfl | exact .inr rfl) rfl (me_bin op_mod mod_ok (ma_ev (me_biT int_ok call_int1 m_int (by decide +kernel) (mas_cons (pv 1) mas_nil))) (ma_ev (me_bin op_mulA mul_ok (ma_ev me_int) (pv 0)))))
    (mss_one (ms_ret (me_if (mt_cmp op_leA le_ok (pv 2) (pv 0) (nomark _)) (me_var (pv 2)) (me_low (me_bin op_subA sub_ok (ma_ev (me_bin op_mulA mul_ok (ma_ev me_int) (pv 0))) (pv 2)))))))
abbrev s_law : Stmt := topS 30
theorem sc_law : FnScope ["script", "hand", "turn", "wide", "high", "box", "common", "steps", "dot", "word", "many", "hits", "step", "told", "k", "like"] ["script"] (defScope s_law) := ⟨rfl, rfl, rfl, by decide +kernel, rfl, by decide +kernel, by decide +kernel⟩
noncomputable def t_law_t4 : ASt :=
  (fSeq (fSet 14 true (fAp gAdd [.ev false (fC (.int 1)), .ev false (fCall F__law_draw (some 0) [.vw 1, .ev false (fC (.int 3))])]))
  (fSeq (fSet 15 false (fApF gTupD [.ev true (fAp gMul [.ev true (fAp gFdiv [.vw 3, .vw 6]), .vw 14]), .ev true (fAp gMul [.ev true (fAp gFdiv [.vw 4, .vw 6]), .vw 14])]))
  (fSeq (fIfS (fAndT (fTb (fAp gLe [.ev false (fAp gMaxB [.vw 15]), .ev false (fC (.int 60))])) (fTb (fAp gNotN [.ev false (fCall F_like_way none [.vw 5, .vw 15]), .ev false (fC (.bl true))]))) (fRet (fC (.bl false))) fNext)
  (fIfS (fNotT (fTru (.ev false (fCall (F__law_is 6) none [.ev false (fCall F_like_way none [.vw 5, .ev false (fApF gTupD [.ev false (fVar 4), .ev false (fVar 3)])]), .ev true (fAp gEq [.vw 3, .vw 4])])))) (fRet (fC (.bl false))) fNext))))
noncomputable def t_law_t3 : ASt :=
  (fSeq (fIfS (fNotT (fTru (.ev false (fCall (F__law_is 6) none [.ev false (fCall F_meets_itself none [.vw 5]), .ev true (fAp gFdiv [.ev true (fAp gMul [.ev true (fAp gSub [.ev true (fAp gFdiv [.vw 3, .vw 6]), .ev false (fC (.int 1))]), .ev true (fAp gSub [.ev true (fAp gFdiv [.vw 4, .vw 6]), .ev false (fC (.int 1))])]), .ev false (fC (.int 2))])])))) (fRet (fC (.bl false))) fNext)
  t_law_t4)
noncomputable def t_law_t2 : ASt :=
  (fSeq (fSet 13 false (fCall F_touched none [.vw 5]))
  (fSeq (fIfS (fOrT (fNotT (fTru (.ev false (fCall (F__law_is 6) none [.vw 13, .ev true (fAp gTuple [.ev true (fAp gSortT [.vw 11])])])))) (fTb (fAp gNe [.ev true (fAp gLen [.vw 13]), .ev true (fAp gSub [.ev true (fAp gAdd [.ev true (fAp gFdiv [.vw 7, .vw 3]), .ev true (fAp gFdiv [.vw 7, .vw 4])]), .ev false (fC (.int 2))])]))) (fRet (fC (.bl false))) fNext)
  t_law_t3))
noncomputable def t_law_t1 : ASt :=
  (fSeq (fSet 11 true (fApF gDicT []))
  (fSeq (fFor (fItF gRng2 [.ev false (fC (.int 1)), .ev false (fVar 7)]) (.nm 12) (fIfS (fOrT (fTb (fAp gEq [.ev true (fAp gMod [.ev true (fAp gInt [.vw 12]), .vw 3]), .ev false (fC (.int 0))])) (fTb (fAp gEq [.ev true (fAp gMod [.ev true (fAp gInt [.vw 12]), .vw 4]), .ev false (fC (.int 0))]))) (fStore 11 gPutD (fC (.bl true)) (.ev false (fApF gTupD [.ev false (fCall F__law_at none [.vw 3, .vw 12]), .ev false (fCall F__law_at none [.vw 4, .vw 12])]))) fNext))
  t_law_t2))
noncomputable def t_law_t0 : ASt :=
  (fSeq (fSet 10 false (fCall F__law_some (some 0) [.vw 1, .ev true (fApF gLstD [.ev false (fCall F__law_draw (some 0) [.vw 1, .ev false (fC (.int 100))]), .ev false (fCall F__law_draw (some 0) [.vw 1, .ev false (fC (.int 10000))]), .ev true (fAp gMul [.ev false (fC (.int 2)), .vw 7])])]))
  (fSeq (fIfS (fNotT (fTru (.ev false (fCall (F__law_is 6) none [.ev false (fCall F_place_at none [.vw 5, .vw 10]), .ev false (fApF gTupD [.ev false (fCall F__law_at none [.vw 3, .vw 10]), .ev false (fCall F__law_at none [.vw 4, .vw 10])])])))) (fRet (fC (.bl false))) fNext)
  t_law_t1))
noncomputable def b_law : ASt :=
  (fSeq (fSet 1 true (fCall F__law_hand none [.vw 0]))
  (fSeq (fFor (fItF gRng1 [.ev false (fC (.int 6))]) (.nm 2) (fSeq (fPar [3, 4] [(true, (fAp gAdd [.ev false (fC (.int 1)), .ev false (fCall F__law_draw (some 0) [.vw 1, .ev false (fC (.int 60))])])), (true, (fAp gAdd [.ev false (fC (.int 1)), .ev false (fCall F__law_draw (some 0) [.vw 1, .ev false (fC (.int 60))])]))])
  (fSeq (fPar [5, 6] [(false, (fApF gTupD [.ev false (fVar 3), .ev false (fVar 4)])), (false, (fCall F__law_common none [.vw 3, .vw 4]))])
  (fSeq (fSet 7 true (fAp gFdiv [.ev true (fAp gMul [.vw 3, .vw 4]), .vw 6]))
  (fSeq (fSet 8 false (fApF gTupD [.ev false (fCall F__law_at none [.vw 3, .vw 7]), .ev false (fCall F__law_at none [.vw 4, .vw 7])]))
  (fSeq (fSet 9 false (fIfE (fTb (fAp gEq [.vw 8, .vw 5])) (fC (.str (Str.ofString "across"))) (fIfE (fTb (fAp gEq [.ev false (fAp gIdx [.vw 8, .ev false (fC (.int 0))]), .vw 3])) (fC (.str (Str.ofString "right"))) (fC (.str (Str.ofString "left"))))))
  (fSeq (fIfS (fNotT (fTru (.ev false (fCall (F__law_is 6) none [.ev false (fCall F_corner_of none [.vw 5]), .ev false (fApF gTupD [.ev false (fVar 9), .ev false (fVar 7), .ev true (fAp gSub [.ev true (fAp gAdd [.ev true (fAp gFdiv [.vw 7, .vw 3]), .ev true (fAp gFdiv [.vw 7, .vw 4])]), .ev false (fC (.int 2))])])])))) (fRet (fC (.bl false))) fNext)
  t_law_t0)))))))
  (fRet (fAndV (fAp gEq [.ev false (fCall F_place_at none [.ev false (fApF gTupD [.ev false (fC (.int 2)), .ev false (fC (.int 3))]), .ev false (fC (.int 4))]), .ev false (fApF gTupD [.ev false (fC (.int 0)), .ev false (fC (.int 2))])]) (fAndV (fAp gEq [.ev false (fCall F_touched none [.ev false (fApF gTupD [.ev false (fC (.int 1)), .ev false (fC (.int 2))])]), .ev false (fApF gTupD [.ev false (fApF gTupD [.ev false (fC (.int 1)), .ev false (fC (.int 1))])])]) (fAp gEq [.ev false (fCall F_meets_itself none [.ev false (fApF gTupD [.ev false (fC (.int 2)), .ev false (fC (.int 3))])]), .ev false (fC (.int 1))]))))))
noncomputable def F_law : AF := runDef 16 none b_law
theorem ok_law {P : Program} {w : World} {K : PySem.W.Frag} {mg : Str → Option Value} {base : Heap} {f : Addr} {fd : FuncData} (F0 : FunD K "law" "law" (defArgs s_law) (defBody s_law) (defScope s_law) [] [] f fd)
    (D__law_at : Def P w K mg base 1 "_law_at" ["long", "steps"] false none F__law_at)
    (D__law_common : Def P w K mg base 1 "_law_common" ["one", "other"] false none F__law_common)
    (D__law_draw : Def P w K mg base 1 "_law_draw" ["hand", "sides"] false (some 0) F__law_draw)
    (D__law_hand : Def P w K mg base 1 "_law_hand" ["script"] true none F__law_hand)
    (D__law_is : Def P w K mg base 7 "_law_is" ["one", "other"] false none (F__law_is 6))
    (D__law_some : Def P w K mg base 2 "_law_some" ["hand", "things"] false (some 0) F__law_some)
    (D_corner_of : Def P w K mg base 4 "corner_of" ["box"] false none F_corner_of)
    (D_like_way : Def P w K mg base 4 "like_way" ["one", "other"] false none F_like_way)
    (D_meets_itself : Def P w K mg base 4 "meets_itself" ["box"] false none F_meets_itself)
    (D_place_at : Def P w K mg base 4 "place_at" ["box", "steps"] false none F_place_at)
    (D_touched : Def P w K mg base 4 "touched" ["box"] false none F_touched)
    (m_int : mg "int" = none)
    (m_len : mg "len" = none)
    (m_max : mg "max" = none)
    (m_range : mg "range" = none)
    (m_sorted : mg "sorted" = none)
    (m_tuple : mg "tuple" = none) :
    FnG P w K mg base 8 f fd ["script"] (spF K mg false none 1 F_law) :=
  def_ok (N := ["script", "hand", "turn", "wide", "high", "box", "common", "steps", "dot", "word", "many", "hits", "step", "told", "k", "like"]) (rd := false) (fun _ => true) F0 sc_law (fun i e => nomatch e) fun cdv B outer s H E hr hg => by
    have hgd : (B.deeper (envOfC "law" (defScope s_law) s.heap.objs.size f cdv)).guards = some [] := hg
    have hu := hr.units
    have hu65 : (B.deeper (envOfC "law" (defScope s_law) s.heap.objs.size f cdv)).units + 65 < cLine := by have := hr.un; omega
    have tk : Takes (cxOf (L2.CX P w) P w K mg base ["script", "hand", "turn", "wide", "high", "box", "common", "steps", "dot", "word", "many", "hits", "step", "told", "k", "like"] "law" (defScope s_law) f cdv B outer s H E) (fun cls dx _ H' => E cls dx H') := takes_of rfl rfl rfl rfl
    have hr_law_at := hr.mono (show 1 ≤ 7 by decide)
    have hr_law_common := hr.mono (show 1 ≤ 7 by decide)
    have hr_law_draw := hr.mono (show 1 ≤ 7 by decide)
    have hr_law_hand := hr.mono (show 1 ≤ 7 by decide)
    have hr_law_is := hr.mono (show 7 ≤ 7 by decide)
    have hr_law_some := hr.mono (show 2 ≤ 7 by decide)
    have hrcorner_of := hr.mono (show 4 ≤ 7 by decide)
    have hrlike_way := hr.mono (show 4 ≤ 7 by decide)
    have hrmeets_itself := hr.mono (show 4 ≤ 7 by decide)
    have hrplace_at := hr.mono (show 4 ≤ 7 by decide)
    have hrtouched := hr.mono (show 4 ≤ 7 by decide)
    exact (mss_cons (ms_set (i := 1) sc_law.nd rfl (by first | exact .inl rfl | exact .inr rfl) rfl (me_callD D__law_hand tk hgd hr_law_hand (mas_cons (pv 0) mas_nil)))
    (mss_cons (ms_for (passes_of rfl) rfl rfl (mi_range1 m_range (ma_ev me_int)) (mg_nm sc_law.nd rfl (by first | exact .inl rfl | exact .inr rfl)) (mss_cons (ms_par2 (i := 3) (j := 4) rfl sc_law.nd rfl rfl (by decide) rfl rfl rfl rfl (me_bin op_addA add_ok (ma_ev me_int) (ma_ev (me_callD D__law_draw tk hgd hr_law_draw (mas_cons (pv 1) (mas_cons (ma_ev me_int) mas_nil))))) (me_bin op_addA add_ok (ma_ev me_int) (ma_ev (me_callD D__law_draw tk hgd hr_law_draw (mas_cons (pv 1) (mas_cons (ma_ev me_int) mas_nil))))) rfl)
    (mss_cons (ms_par2 (i := 5) (j := 6) rfl sc_law.nd rfl rfl (by decide) rfl rfl rfl rfl (me_tup (mas_cons (ma_ev (me_var (pv 3))) (mas_cons (ma_ev (me_var (pv 4))) mas_nil))) (me_callD D__law_common tk hgd hr_law_common (mas_cons (pv 3) (mas_cons (pv 4) mas_nil))) rfl)
    (mss_cons (ms_set (i := 7) sc_law.nd rfl (by first | exact .inl rfl | exact .inr rfl) rfl (me_bin op_fdiv fdiv_ok (ma_ev (me_bin op_mulA mul_ok (pv 3) (pv 4))) (pv 6)))
    (mss_cons (ms_set (i := 8) sc_law.nd rfl (by first | exact .inl rfl | exact .inr rfl) rfl (me_tup (mas_cons (ma_ev (me_callD D__law_at tk hgd hr_law_at (mas_cons (pv 3) (mas_cons (pv 7) mas_nil)))) (mas_cons (ma_ev (me_callD D__law_at tk hgd hr_law_at (mas_cons (pv 4) (mas_cons (pv 7) mas_nil)))) mas_nil))))
    (mss_cons (ms_set (i := 9) sc_law.nd rfl (by first | exact .inl rfl | exact .inr rfl) rfl (me_if (mt_cmp (op_eqA hu) eq_ok (pv 8) (pv 5) (nomark _)) me_str (me_if (mt_cmp (op_eqA hu) eq_ok (ma_ev (me_idx (pv 8) (ma_ev me_int) (fun _ _ => rfl))) (pv 3) (nomark _)) me_str me_str)))
    (mss_cons (ms_if (mt_not (mt_tru (ma_ev (me_callD D__law_is tk hgd hr_law_is (mas_cons (ma_ev (me_callD D_corner_of tk hgd hrcorner_of (mas_cons (pv 5) mas_nil))) (mas_cons (ma_ev (me_tup (mas_cons (ma_ev (me_var (pv 9))) (mas_cons (ma_ev (me_var (pv 7))) (mas_cons (ma_ev (me_bin op_subA sub_ok (ma_ev (me_bin op_addA add_ok (ma_ev (me_bin op_fdiv fdiv_ok (pv 7) (pv 3))) (ma_ev (me_bin op_fdiv fdiv_ok (pv 7) (pv 4))))) (ma_ev me_int))) mas_nil))))) mas_nil)))))) (mss_one (ms_ret me_bl)) mss_nil)
    (mss_cons (ms_set (i := 10) sc_law.nd rfl (by first | exact .inl rfl | exact .inr rfl) rfl (me_callD D__law_some tk hgd hr_law_some (mas_cons (pv 1) (mas_cons (ma_ev (me_lst (mas_cons (ma_ev (me_callD D__law_draw tk hgd hr_law_draw (mas_cons (pv 1) (mas_cons (ma_ev me_int) mas_nil)))) (mas_cons (ma_ev (me_callD D__law_draw tk hgd hr_law_draw (mas_cons (pv 1) (mas_cons (ma_ev me_int) mas_nil)))) (mas_cons (ma_ev (me_bin op_mulA mul_ok (ma_ev me_int) (pv 7))) mas_nil))))) mas_nil))))
    (mss_cons (ms_if (mt_not (mt_tru (ma_ev (me_callD D__law_is tk hgd hr_law_is (mas_cons (ma_ev (me_callD D_place_at tk hgd hrplace_at (mas_cons (pv 5) (mas_cons (pv 10) mas_nil)))) (mas_cons (ma_ev (me_tup (mas_cons (ma_ev (me_callD D__law_at tk hgd hr_law_at (mas_cons (pv 3) (mas_cons (pv 10) mas_nil)))) (mas_cons (ma_ev (me_callD D__law_at tk hgd hr_law_at (mas_cons (pv 4) (mas_cons (pv 10) mas_nil)))) mas_nil)))) mas_nil)))))) (mss_one (ms_ret me_bl)) mss_nil)
    (mss_cons (ms_set (i := 11) sc_law.nd rfl (by first | exact .inl rfl | exact .inr rfl) rfl me_dnewT)
    (mss_cons (ms_for (passes_of rfl) rfl rfl (mi_range2 m_range (ma_ev me_int) (ma_ev (me_var (pv 7)))) (mg_nm sc_law.nd rfl (by first | exact .inl rfl | exact .inr rfl)) (mss_one (ms_if (mt_w (mw_or (mt_cmp (op_eqA hu) eq_ok (ma_ev (me_bin op_mod mod_ok (ma_ev (me_biT int_ok call_int1 m_int (by decide +kernel) (mas_cons (pv 12) mas_nil))) (pv 3))) (ma_ev me_int) (nomark _)) (mw_or1 (mt_cmp (op_eqA hu) eq_ok (ma_ev (me_bin op_mod mod_ok (ma_ev (me_biT int_ok call_int1 m_int (by decide +kernel) (mas_cons (pv 12) mas_nil))) (pv 4))) (ma_ev me_int) (nomark _))))) (mss_one (ms_putD hu65 me_bl (pv 11) (ma_ev (me_tup (mas_cons (ma_ev (me_callD D__law_at tk hgd hr_law_at (mas_cons (pv 3) (mas_cons (pv 12) mas_nil)))) (mas_cons (ma_ev (me_callD D__law_at tk hgd hr_law_at (mas_cons (pv 4) (mas_cons (pv 12) mas_nil)))) mas_nil)))))) mss_nil)))
    (mss_cons (ms_set (i := 13) sc_law.nd rfl (by first | exact .inl rfl | exact .inr rfl) rfl (me_callD D_touched tk hgd hrtouched (mas_cons (pv 5) mas_nil)))
    (mss_cons (ms_if (mt_w (mw_or (mt_not (mt_tru (ma_ev (me_callD D__law_is tk hgd hr_law_is (mas_cons (pv 13) (mas_cons (ma_ev (me_biT tuple_ok call_tuple_of m_tuple (by decide +kernel) (mas_cons (ma_ev (me_bi sortT_ok (cr_sortT2 rfl hu65) m_sorted (by decide +kernel) (mas_cons (pv 11) mas_nil))) mas_nil))) mas_nil)))))) (mw_or1 (mt_cmp (op_neA hu) ne_ok (ma_ev (me_bi len_ok call_len m_len (by decide +kernel) (mas_cons (pv 13) mas_nil))) (ma_ev (me_bin op_subA sub_ok (ma_ev (me_bin op_addA add_ok (ma_ev (me_bin op_fdiv fdiv_ok (pv 7) (pv 3))) (ma_ev (me_bin op_fdiv fdiv_ok (pv 7) (pv 4))))) (ma_ev me_int))) (nomark _))))) (mss_one (ms_ret me_bl)) mss_nil)
    (mss_cons (ms_if (mt_not (mt_tru (ma_ev (me_callD D__law_is tk hgd hr_law_is (mas_cons (ma_ev (me_callD D_meets_itself tk hgd hrmeets_itself (mas_cons (pv 5) mas_nil))) (mas_cons (ma_ev (me_bin op_fdiv fdiv_ok (ma_ev (me_bin op_mulA mul_ok (ma_ev (me_bin op_subA sub_ok (ma_ev (me_bin op_fdiv fdiv_ok (pv 3) (pv 6))) (ma_ev me_int))) (ma_ev (me_bin op_subA sub_ok (ma_ev (me_bin op_fdiv fdiv_ok (pv 4) (pv 6))) (ma_ev me_int))))) (ma_ev me_int))) mas_nil)))))) (mss_one (ms_ret me_bl)) mss_nil)
    (mss_cons (ms_set (i := 14) sc_law.nd rfl (by first | exact .inl rfl | exact .inr rfl) rfl (me_bin op_addA add_ok (ma_ev me_int) (ma_ev (me_callD D__law_draw tk hgd hr_law_draw (mas_cons (pv 1) (mas_cons (ma_ev me_int) mas_nil))))))
    (mss_cons (ms_set (i := 15) sc_law.nd rfl (by first | exact .inl rfl | exact .inr rfl) rfl (me_tup (mas_cons (ma_ev (me_bin op_mulA mul_ok (ma_ev (me_bin op_fdiv fdiv_ok (pv 3) (pv 6))) (pv 14))) (mas_cons (ma_ev (me_bin op_mulA mul_ok (ma_ev (me_bin op_fdiv fdiv_ok (pv 4) (pv 6))) (pv 14))) mas_nil))))
    (mss_cons (ms_if (mt_w (mw_and (mt_cmp op_leA le_ok (ma_ev (me_bi maxB_ok (cr_maxB rfl hu65) m_max (by decide +kernel) (mas_cons (pv 15) mas_nil))) (ma_ev me_int) (nomark _)) (mw_and1 (mt_cmp op_isNotA isNotA_ok (ma_ev (me_callD D_like_way tk hgd hrlike_way (mas_cons (pv 5) (mas_cons (pv 15) mas_nil)))) (ma_ev me_bl) (nomark _))))) (mss_one (ms_ret me_bl)) mss_nil)
    (mss_one (ms_if (mt_not (mt_tru (ma_ev (me_callD D__law_is tk hgd hr_law_is (mas_cons (ma_ev (me_callD D_like_way tk hgd hrlike_way (mas_cons (pv 5) (mas_cons (ma_ev (me_tup (mas_cons (ma_ev (me_var (pv 4))) (mas_cons (ma_ev (me_var (pv 3))) mas_nil)))) mas_nil)))) (mas_cons (ma_ev (me_cmp (op_eqA hu) eq_ok (pv 3) (pv 4) (nomark _))) mas_nil)))))) (mss_one (ms_ret me_bl)) mss_nil)))))))))))))))))))
    (mss_one (ms_ret (me_low (me_and (me_cmp (op_eqA hu) eq_ok (ma_ev (me_callD D_place_at tk hgd hrplace_at (mas_cons (ma_ev (me_tup (mas_cons (ma_ev me_int) (mas_cons (ma_ev me_int) mas_nil)))) (mas_cons (ma_ev me_int) mas_nil)))) (ma_ev (me_tup (mas_cons (ma_ev me_int) (mas_cons (ma_ev me_int) mas_nil)))) (nomark _)) (me_and (me_cmp (op_eqA hu) eq_ok (ma_ev (me_callD D_touched tk hgd hrtouched (mas_cons (ma_ev (me_tup (mas_cons (ma_ev me_int) (mas_cons (ma_ev me_int) mas_nil)))) mas_nil))) (ma_ev (me_tup (mas_cons (ma_ev (me_tup (mas_cons (ma_ev me_int) (mas_cons (ma_ev me_int) mas_nil)))) mas_nil))) (nomark _)) (me_one (me_cmp (op_eqA hu) eq_ok (ma_ev (me_callD D_meets_itself tk hgd hrmeets_itself (mas_cons (ma_ev (me_tup (mas_cons (ma_ev me_int) (mas_cons (ma_ev me_int) mas_nil)))) mas_nil))) (ma_ev me_int) (nomark _))))))))))
/-! ### the head: facts by names, the run -/
def dd_is_integer : He.DefD := ⟨("is_integer", none), "is_integer", "is_integer", defArgs s_is_integer, defBody s_is_integer, defScope s_is_integer, [], []⟩
def dd_is_within : He.DefD := ⟨("is_within", none), "is_within", "is_within", defArgs s_is_within, defBody s_is_within, defScope s_is_within, [], []⟩
def dd_is_tuple : He.DefD := ⟨("is_tuple", none), "is_tuple", "is_tuple", defArgs s_is_tuple, defBody s_is_tuple, defScope s_is_tuple, [], []⟩
def dd_divisor : He.DefD := ⟨("divisor", none), "divisor", "divisor", defArgs s_divisor, defBody s_divisor, defScope s_divisor, [], []⟩
def dd_check_box : He.DefD := ⟨("check_box", none), "check_box", "check_box", defArgs s_check_box, defBody s_check_box, defScope s_check_box, [], []⟩
def dd_steps_to : He.DefD := ⟨("steps_to", none), "steps_to", "steps_to", defArgs s_steps_to, defBody s_steps_to, defScope s_steps_to, [], []⟩
def dd_corner_of : He.DefD := ⟨("corner_of", none), "corner_of", "corner_of", defArgs s_corner_of, defBody s_corner_of, defScope s_corner_of, [], []⟩
def dd_folded : He.DefD := ⟨("folded", none), "folded", "folded", defArgs s_folded, defBody s_folded, defScope s_folded, [], []⟩
def dd_dot_at : He.DefD := ⟨("dot_at", none), "dot_at", "dot_at", defArgs s_dot_at, defBody s_dot_at, defScope s_dot_at, [], []⟩
def dd_place_at : He.DefD := ⟨("place_at", none), "place_at", "place_at", defArgs s_place_at, defBody s_place_at, defScope s_place_at, [], []⟩
def dd_meets_itself : He.DefD := ⟨("meets_itself", none), "meets_itself", "meets_itself", defArgs s_meets_itself, defBody s_meets_itself, defScope s_meets_itself, [], []⟩
def dd_is_side : He.DefD := ⟨("is_side", none), "is_side", "is_side", defArgs s_is_side, defBody s_is_side, defScope s_is_side, [], []⟩
def dd_touched : He.DefD := ⟨("touched", none), "touched", "touched", defArgs s_touched, defBody s_touched, defScope s_touched, [], []⟩
def dd_like_way : He.DefD := ⟨("like_way", none), "like_way", "like_way", defArgs s_like_way, defBody s_like_way, defScope s_like_way, [], []⟩
def dd__law_hand : He.DefD := ⟨("_law_hand", none), "_law_hand", "_law_hand", defArgs s__law_hand, defBody s__law_hand, defScope s__law_hand, [], []⟩
def dd__law_draw : He.DefD := ⟨("_law_draw", none), "_law_draw", "_law_draw", defArgs s__law_draw, defBody s__law_draw, defScope s__law_draw, [], []⟩
def dd__law_some : He.DefD := ⟨("_law_some", none), "_law_some", "_law_some", defArgs s__law_some, defBody s__law_some, defScope s__law_some, [], []⟩
def dd__law_is : He.DefD := ⟨("_law_is", none), "_law_is", "_law_is", defArgs s__law_is, defBody s__law_is, defScope s__law_is, [], []⟩
def dd__law_common : He.DefD := ⟨("_law_common", none), "_law_common", "_law_common", defArgs s__law_common, defBody s__law_common, defScope s__law_common, [], []⟩
def dd__law_at : He.DefD := ⟨("_law_at", none), "_law_at", "_law_at", defArgs s__law_at, defBody s__law_at, defScope s__law_at, [], []⟩
def dd_law : He.DefD := ⟨("law", none), "law", "law", defArgs s_law, defBody s_law, defScope s_law, [], []⟩
def fn : List He.DefD := [dd_is_integer, dd_is_within, dd_is_tuple, dd_divisor, dd_check_box, dd_steps_to, dd_corner_of, dd_folded, dd_dot_at, dd_place_at, dd_meets_itself, dd_is_side, dd_touched, dd_like_way, dd__law_hand, dd__law_draw, dd__law_some, dd__law_is, dd__law_common, dd__law_at, dd_law]
def fa : List He.Fa := [.glo "is_integer", .glo "is_within", .glo "is_tuple", .glo "divisor", .glo "check_box", .glo "steps_to", .glo "corner_of", .glo "folded", .glo "dot_at", .glo "place_at", .glo "meets_itself", .glo "is_side", .glo "touched", .glo "like_way", .glo "_law_hand", .glo "_law_draw", .glo "_law_some", .glo "_law_is", .glo "_law_common", .glo "_law_at", .glo "law", .free "bool", .free "int", .free "isinstance", .free "len", .free "tuple", .free "abs", .free "all", .free "min", .free "range", .free "sorted", .free "dict", .free "list", .free "zip", .free "max", .int "LONGEST" 60, .int "MOST_STEPS" 10000]
abbrev R : PySem.W.OpenRow := PySem.W.OpenLaw.row PySem.Challenge.rw_fewtoys_k95_whole_balls_that_come_to_cor
abbrev hk : PySem.W.Hook := He.hookD 4 fa fn
def ob (s : PySem.W.SharedT) : He.AlD := He.obsDG 4 fa fn (HandSHeadRun.getT s)
theorem ob_eq (s : PySem.W.SharedT) : ob s = hk.obs s.abs := He.obsDG_eq (HandSHeadRun.getT_eq s)
def loose : List Str := ["is_integer", "is_within", "is_tuple", "ToyError", "NoNumber", "NoBox", "divisor", "LONGEST", "MOST_STEPS", "check_box", "steps_to", "corner_of", "folded", "dot_at", "place_at", "meets_itself", "is_side", "touched", "like_way", "_law_hand", "_law_draw", "_law_some", "_law_is", "_law_common", "_law_at"]
theorem run (w : World) : HandSHeadRun.RunEq R (PySem.W.view R.prog [30]) hk ob 4000 loose w := by
  intro os
  kernel_rfl
theorem glo_at {K : PySem.W.Frag} {h : Heap} {mg : Str → Option Value} (X : K.In h) (G : h.Ns mainGlobals mg) (c : He.SaysD fa fn K) {d : He.DefD} {x : Str} {st : Stmt} (i j : Nat) (hd : fn[i]? = some d := by rfl) (hf : fa[j]? = some (.glo x) := by rfl) (e : d = ⟨(x, none), x, x, defArgs st, defBody st, defScope st, [], []⟩ := by rfl) : DefAt K mg x st := by
  obtain ⟨fd, F⟩ := c.def_ i hd
  subst e
  exact ⟨_, fd, He.glo_ok X G (c.fact j hf), F⟩
theorem all {P : Program} {w : World} {K : PySem.W.Frag} {h : Heap} {mg : Str → Option Value} {f : Addr} (X : K.In h) (G : h.Ns mainGlobals mg) (hfa : mg "law" = some (.ref f)) (c : He.SaysD fa fn K) :
    ∃ fd : FuncData, (∀ (s : Shared) (v : Value), BindsTo s fd ⟨[v], []⟩ [("script", v)]) ∧ ∀ base : Heap, K.In base → base.Ns mainGlobals mg → FnG P w K mg base 8 f fd ["script"] (spF K mg false none 1 F_law) := by
  have m_bool := He.free_ok X G (c.fact 21 (f := .free "bool") rfl)
  have m_int := He.free_ok X G (c.fact 22 (f := .free "int") rfl)
  have m_isinstance := He.free_ok X G (c.fact 23 (f := .free "isinstance") rfl)
  have m_len := He.free_ok X G (c.fact 24 (f := .free "len") rfl)
  have m_tuple := He.free_ok X G (c.fact 25 (f := .free "tuple") rfl)
  have m_abs := He.free_ok X G (c.fact 26 (f := .free "abs") rfl)
  have m_all := He.free_ok X G (c.fact 27 (f := .free "all") rfl)
  have m_min := He.free_ok X G (c.fact 28 (f := .free "min") rfl)
  have m_range := He.free_ok X G (c.fact 29 (f := .free "range") rfl)
  have m_sorted := He.free_ok X G (c.fact 30 (f := .free "sorted") rfl)
  have m_dict := He.free_ok X G (c.fact 31 (f := .free "dict") rfl)
  have m_list := He.free_ok X G (c.fact 32 (f := .free "list") rfl)
  have m_zip := He.free_ok X G (c.fact 33 (f := .free "zip") rfl)
  have m_max := He.free_ok X G (c.fact 34 (f := .free "max") rfl)
  obtain ⟨t_LONGEST, hm_LONGEST⟩ := He.int_ok X G (c.fact 35 (f := .int "LONGEST" 60) rfl)
  have hr_LONGEST : RelV (.int 60) (.int 60 t_LONGEST) := ⟨_, rfl⟩
  obtain ⟨t_MOST_STEPS, hm_MOST_STEPS⟩ := He.int_ok X G (c.fact 36 (f := .int "MOST_STEPS" 10000) rfl)
  have hr_MOST_STEPS : RelV (.int 10000) (.int 10000 t_MOST_STEPS) := ⟨_, rfl⟩
  have A_is_integer : DefAt K mg "is_integer" s_is_integer := glo_at X G c 0 0
  have A_is_within : DefAt K mg "is_within" s_is_within := glo_at X G c 1 1
  have A_is_tuple : DefAt K mg "is_tuple" s_is_tuple := glo_at X G c 2 2
  have A_divisor : DefAt K mg "divisor" s_divisor := glo_at X G c 3 3
  have A_check_box : DefAt K mg "check_box" s_check_box := glo_at X G c 4 4
  have A_steps_to : DefAt K mg "steps_to" s_steps_to := glo_at X G c 5 5
  have A_corner_of : DefAt K mg "corner_of" s_corner_of := glo_at X G c 6 6
  have A_folded : DefAt K mg "folded" s_folded := glo_at X G c 7 7
  have A_dot_at : DefAt K mg "dot_at" s_dot_at := glo_at X G c 8 8
  have A_place_at : DefAt K mg "place_at" s_place_at := glo_at X G c 9 9
  have A_meets_itself : DefAt K mg "meets_itself" s_meets_itself := glo_at X G c 10 10
  have A_is_side : DefAt K mg "is_side" s_is_side := glo_at X G c 11 11
  have A_touched : DefAt K mg "touched" s_touched := glo_at X G c 12 12
  have A_like_way : DefAt K mg "like_way" s_like_way := glo_at X G c 13 13
  have A__law_hand : DefAt K mg "_law_hand" s__law_hand := glo_at X G c 14 14
  have A__law_draw : DefAt K mg "_law_draw" s__law_draw := glo_at X G c 15 15
  have A__law_some : DefAt K mg "_law_some" s__law_some := glo_at X G c 16 16
  have A__law_is : DefAt K mg "_law_is" s__law_is := glo_at X G c 17 17
  have A__law_common : DefAt K mg "_law_common" s__law_common := glo_at X G c 18 18
  have A__law_at : DefAt K mg "_law_at" s__law_at := glo_at X G c 19 19
  obtain ⟨fd, F⟩ := c.def_ 20 (d := dd_law) rfl
  have e := hfa.symm.trans (He.glo_ok X G (c.fact 20 (f := .glo "law") rfl))
  cases e
  have b := FunD.bindsA (ps := ["script"]) F fun _ _ _ _ _ _ us hl => match us, hl with | [_], _ => rfl
  refine ⟨fd, fun s v => b s [v] rfl, fun base _ _ => ?_⟩
  have D_is_integer := ok_is_integer (P := P) (w := w) (base := base) A_is_integer m_bool m_int m_isinstance
  have D_is_within := ok_is_within (P := P) (w := w) (base := base) A_is_within D_is_integer
  have D_is_tuple := ok_is_tuple (P := P) (w := w) (base := base) A_is_tuple m_isinstance m_len m_tuple
  have D_divisor := ok_divisor (P := P) (w := w) (base := base) A_divisor m_abs
  have D_check_box := ok_check_box (P := P) (w := w) (base := base) A_check_box D_is_tuple D_is_within m_all hm_LONGEST hr_LONGEST
  have D_steps_to := ok_steps_to (P := P) (w := w) (base := base) A_steps_to D_divisor
  have D_corner_of := ok_corner_of (P := P) (w := w) (base := base) A_corner_of D_check_box D_steps_to
  have D_folded := ok_folded (P := P) (w := w) (base := base) A_folded m_min
  have D_dot_at := ok_dot_at (P := P) (w := w) (base := base) A_dot_at D_folded
  have D_place_at := ok_place_at (P := P) (w := w) (base := base) A_place_at D_check_box D_dot_at D_is_within hm_MOST_STEPS hr_MOST_STEPS
  have D_meets_itself := ok_meets_itself (P := P) (w := w) (base := base) A_meets_itself D_check_box D_divisor
  have D_is_side := ok_is_side (P := P) (w := w) (base := base) A_is_side
  have D_touched := ok_touched (P := P) (w := w) (base := base) A_touched D_check_box D_dot_at D_is_side D_steps_to m_range m_sorted m_tuple
  have D_like_way := ok_like_way (P := P) (w := w) (base := base) A_like_way D_check_box
  have D__law_hand := ok__law_hand (P := P) (w := w) (base := base) A__law_hand m_abs m_int m_len
  have D__law_draw := ok__law_draw (P := P) (w := w) (base := base) A__law_draw m_int m_len
  have D__law_some := ok__law_some (P := P) (w := w) (base := base) A__law_some D__law_draw m_len
  have D__law_is := ok__law_is (P := P) (w := w) (base := base) A__law_is m_all m_bool m_dict m_int m_isinstance m_len m_list m_tuple m_zip 6
  have D__law_common := ok__law_common (P := P) (w := w) (base := base) A__law_common m_int
  have D__law_at := ok__law_at (P := P) (w := w) (base := base) A__law_at m_int
  exact ok_law F D__law_at D__law_common D__law_draw D__law_hand D__law_is D__law_some D_corner_of D_like_way D_meets_itself D_place_at D_touched m_int m_len m_max m_range m_sorted m_tuple
end K95
namespace K95
open PySem PV L2
theorem q_make : MakeOk F__law_hand := fun ns hl => by
  simp (disch := first | assumption | omega | (refine okR_int ?_ ?_ <;> omega) | exact OkE.str | (refine okE_of ?_ ?_ <;> (simp only [okE_tup, okE_lst, okEs_c, okEs_nil, okEs_ints, okE_int, okE_bl, okE_non, okE_str, okEs_app, Bool.and_self, Bool.and_true] <;> decide +kernel))) only [↓w_c, ↓w_var, ↓w_mv, ↓wa_nil, ↓wa_vw, ↓wa_ev, ↓wf_nil, ↓wf_l, ↓wf_r, ↓w_ap, ↓wi_nil, ↓wi_r, ↓w_apF, ↓wb_b, ↓w_tb, ↓w_tru, ↓tr1, ↓tr_bl, ↓tr_int, ↓tr_non, ↓tr_lst, ↓tr_tup, ↓w_not, ↓w_and, ↓w_or, ↓w_yes, ↓w_ife, ↓w_bl, ↓w_andV, ↓w_orV, ↓w_notV, ↓wn_i, ↓w_int, ↓w_chain, ↓hk_int, ↓hk_0, ↓hk_2, ↓hk_l, ↓hd_nil, ↓hd_l, ↓hd_r, ↓w_call, ↓w_callio, ↓is_l, ↓is_r, ↓is_s, ↓mk_nil, ↓mk_r, ↓mk_l, ↓ib_n, ↓ib_s, ↓ib_none, ↓wfl_n, ↓wfl_r, ↓w_run, ↓iv_n, ↓iv_z, ↓iv_s, ↓w_next, ↓w_break, ↓w_cont, ↓w_never, ↓wx_n, ↓wx_r, ↓wx_b, ↓wx_c, ↓w_seq, ↓w_set, ↓w_expr, ↓w_ret, ↓w_ifs, ↓wm_nil, ↓wm_c, ↓sm_nil, ↓sm_c, ↓w_par, ↓bt_n, ↓bt_t, ↓bt_l, ↓bts_n, ↓bts_c, ↓w_tgt, ↓w_it, ↓w_itV, ↓w_itF, ↓w_str, ↓w_itP, ↓w_for, ↓w_lc, ↓w_mut, ↓w_store, ↓st1, wp_ok, wp_no, wp_ex, br_t, br_f, br_not, gv_z, gv_s, sv_z, sv_s, nk_int, nk_bl, nk_str, nk_tup, nk_ro, nk_non, nk_lt, nk_lf, nk_f, kk_0, kk_1, wpo_some, wpo_none, wpo_map, wpo_bind, o_add, o_adds, o_addl, o_addt, o_sub, o_mul, o_mull, o_fd, o_md, o_pw, o_ng, o_lt, o_le, o_gt, o_ge, o_abs, o_int, o_intb, o_is_ti, o_is_tb, o_is_ts, o_is_tt, o_is_tl, o_tup, o_lst, o_lenl, o_lent, o_lenr, o_lens, o_ixl, o_ixt, o_ixr, ixL_o, ixL_m1, gRepr_ok, gEq_ok, gNe_ok, eqD_int, eqD_bl, eqD_non, eqD_tup, eqD_lst, eqD_str, eqDs_nil, eqDs_c, eqDs_cn, eqDs_nc, eqDs_ints, o_eqS, o_neS, o_eqI, o_neI, o_eqB, o_neB, o_allB, o_anyB, o_sumI, o_sumM, o_allM, o_anyM, o_max2, o_min2, o_maxI, o_minI, o_tuple, o_tuplet, o_list, o_listt, o_rng1, o_rng2, o_append, o_pop, o_set, wk_l, wk_t, wk_r, wk_s, mu_l, mu_d, d_mut_l, d_mut_i, d_mut_b, d_mut_s, d_mut_t, d_mut_n, ixN_o, List.set_cons_zero, List.set_cons_succ, List.getLast?_concat, o_sumAI, o_sumAM, o_sumAt, o_sumAt2, o_maxA2, o_minA2, o_maxAI, o_minAI, o_maxAt, o_minAt, o_inSS, o_ninSS, o_ixs, o_join, o_isb, o_isn, o_notb, o_notn, in_int, in_non, in_tup, in_lst, in_str, in_bl, o_inI, o_inIt, o_ninI, o_ninIt, o_inS, o_inSt, o_lrg1, o_lrg2, o_trg1, o_popAtI, o_sortI, o_sortIt, o_extend, o_revL, o_zipl, o_zipt, o_rev, o_enum, wfp_nil, wfp_r, wfp_l, fo_n, fo_c, fo_b, fo_r, un_nil, un_c, re_nil, re_c, ov_nil, ov_c, kOk_0, kOk_1, kOk_2, kOk_n, o_minB2, o_maxB2, o_minBI, o_maxBI, o_minBt, o_maxBt, o_sortBI, o_sortBIt, o_dict1i, o_dict1s, o_dicK, o_dicT, nk_dt, nk_df, d_mut_dic, o_is_td, in_dic, o_is_tn, o_enumAl, o_enumAt, o_mulT, o_dT0, o_putT, nk_dT, mut_dT, List.map_cons, List.map_nil, List.length_cons, List.length_nil, List.replicate_succ, List.replicate_zero, List.cons_append, List.nil_append, List.append_nil, List.length_map, List.length_range, List.drop_succ_cons, List.drop_zero, List.zip_cons_cons, List.zip_nil_right, List.zip_nil_left, List.getElem?_cons_zero, List.getElem?_cons_succ, Option.join_some, Option.join_none, Option.map_some, Option.map_none, decide_true, decide_false, decide_not, Bool.not_true, Bool.not_false, Bool.not_not, Bool.true_and, Bool.false_and, Bool.and_true, Bool.and_false, true_and, and_true, false_and, and_false, not_true_eq_false, not_false_eq_true, if_true, if_false, reduceCtorEq, Option.some.injEq, and_self, mb_l, mb_r, Nat.reduceAdd, Nat.reducePow, Nat.reduceSub, Nat.reduceMul, Nat.reduceLT, Nat.reduceGT, Nat.reduceLeDiff, Nat.reduceEqDiff, Nat.reduceBEq, Nat.reduceBNe, Int.reduceAdd, Int.reduceSub, Int.reduceMul, Int.reduceNeg, Int.reduceDiv, Int.reduceMod, Int.reduceLT, Int.reduceLE, Int.reduceGT, Int.reduceGE, Int.reduceEq, Int.reduceNe, Int.reduceToNat, Int.reducePow, Int.reduceAbs, Int.reduceBEq, Int.reduceBNe, reduceIte, Nat.zero_add, Nat.sub_zero, Nat.add_zero, Int.natCast_one, Int.cast_ofNat_Int, F__law_hand, b__law_hand, o_slH, cut_script hl]
  refine ⟨by omega, ?_⟩
  refine wp_lcM (f := D.int) (g := fun i => D.int (if i < 0 then -i else i)) ?_ ?_
  · intro i _
    simp (disch := first | assumption | omega | (refine okR_int ?_ ?_ <;> omega) | exact OkE.str | (refine okE_of ?_ ?_ <;> (simp only [okE_tup, okE_lst, okEs_c, okEs_nil, okEs_ints, okE_int, okE_bl, okE_non, okE_str, okEs_app, Bool.and_self, Bool.and_true] <;> decide +kernel))) only [↓w_c, ↓w_var, ↓w_mv, ↓wa_nil, ↓wa_vw, ↓wa_ev, ↓wf_nil, ↓wf_l, ↓wf_r, ↓w_ap, ↓wi_nil, ↓wi_r, ↓w_apF, ↓wb_b, ↓w_tb, ↓w_tru, ↓tr1, ↓tr_bl, ↓tr_int, ↓tr_non, ↓tr_lst, ↓tr_tup, ↓w_not, ↓w_and, ↓w_or, ↓w_yes, ↓w_ife, ↓w_bl, ↓w_andV, ↓w_orV, ↓w_notV, ↓wn_i, ↓w_int, ↓w_chain, ↓hk_int, ↓hk_0, ↓hk_2, ↓hk_l, ↓hd_nil, ↓hd_l, ↓hd_r, ↓w_call, ↓w_callio, ↓is_l, ↓is_r, ↓is_s, ↓mk_nil, ↓mk_r, ↓mk_l, ↓ib_n, ↓ib_s, ↓ib_none, ↓wfl_n, ↓wfl_r, ↓w_run, ↓iv_n, ↓iv_z, ↓iv_s, ↓w_next, ↓w_break, ↓w_cont, ↓w_never, ↓wx_n, ↓wx_r, ↓wx_b, ↓wx_c, ↓w_seq, ↓w_set, ↓w_expr, ↓w_ret, ↓w_ifs, ↓wm_nil, ↓wm_c, ↓sm_nil, ↓sm_c, ↓w_par, ↓bt_n, ↓bt_t, ↓bt_l, ↓bts_n, ↓bts_c, ↓w_tgt, ↓w_it, ↓w_itV, ↓w_itF, ↓w_str, ↓w_itP, ↓w_for, ↓w_lc, ↓w_mut, ↓w_store, ↓st1, wp_ok, wp_no, wp_ex, br_t, br_f, br_not, gv_z, gv_s, sv_z, sv_s, nk_int, nk_bl, nk_str, nk_tup, nk_ro, nk_non, nk_lt, nk_lf, nk_f, kk_0, kk_1, wpo_some, wpo_none, wpo_map, wpo_bind, o_add, o_adds, o_addl, o_addt, o_sub, o_mul, o_mull, o_fd, o_md, o_pw, o_ng, o_lt, o_le, o_gt, o_ge, o_abs, o_int, o_intb, o_is_ti, o_is_tb, o_is_ts, o_is_tt, o_is_tl, o_tup, o_lst, o_lenl, o_lent, o_lenr, o_lens, o_ixl, o_ixt, o_ixr, ixL_o, ixL_m1, gRepr_ok, gEq_ok, gNe_ok, eqD_int, eqD_bl, eqD_non, eqD_tup, eqD_lst, eqD_str, eqDs_nil, eqDs_c, eqDs_cn, eqDs_nc, eqDs_ints, o_eqS, o_neS, o_eqI, o_neI, o_eqB, o_neB, o_allB, o_anyB, o_sumI, o_sumM, o_allM, o_anyM, o_max2, o_min2, o_maxI, o_minI, o_tuple, o_tuplet, o_list, o_listt, o_rng1, o_rng2, o_append, o_pop, o_set, wk_l, wk_t, wk_r, wk_s, mu_l, mu_d, d_mut_l, d_mut_i, d_mut_b, d_mut_s, d_mut_t, d_mut_n, ixN_o, List.set_cons_zero, List.set_cons_succ, List.getLast?_concat, o_sumAI, o_sumAM, o_sumAt, o_sumAt2, o_maxA2, o_minA2, o_maxAI, o_minAI, o_maxAt, o_minAt, o_inSS, o_ninSS, o_ixs, o_join, o_isb, o_isn, o_notb, o_notn, in_int, in_non, in_tup, in_lst, in_str, in_bl, o_inI, o_inIt, o_ninI, o_ninIt, o_inS, o_inSt, o_lrg1, o_lrg2, o_trg1, o_popAtI, o_sortI, o_sortIt, o_extend, o_revL, o_zipl, o_zipt, o_rev, o_enum, wfp_nil, wfp_r, wfp_l, fo_n, fo_c, fo_b, fo_r, un_nil, un_c, re_nil, re_c, ov_nil, ov_c, kOk_0, kOk_1, kOk_2, kOk_n, o_minB2, o_maxB2, o_minBI, o_maxBI, o_minBt, o_maxBt, o_sortBI, o_sortBIt, o_dict1i, o_dict1s, o_dicK, o_dicT, nk_dt, nk_df, d_mut_dic, o_is_td, in_dic, o_is_tn, o_enumAl, o_enumAt, o_mulT, o_dT0, o_putT, nk_dT, mut_dT, List.map_cons, List.map_nil, List.length_cons, List.length_nil, List.replicate_succ, List.replicate_zero, List.cons_append, List.nil_append, List.append_nil, List.length_map, List.length_range, List.drop_succ_cons, List.drop_zero, List.zip_cons_cons, List.zip_nil_right, List.zip_nil_left, List.getElem?_cons_zero, List.getElem?_cons_succ, Option.join_some, Option.join_none, Option.map_some, Option.map_none, decide_true, decide_false, decide_not, Bool.not_true, Bool.not_false, Bool.not_not, Bool.true_and, Bool.false_and, Bool.and_true, Bool.and_false, true_and, and_true, false_and, and_false, not_true_eq_false, not_false_eq_true, if_true, if_false, reduceCtorEq, Option.some.injEq, and_self, mb_l, mb_r, Nat.reduceAdd, Nat.reducePow, Nat.reduceSub, Nat.reduceMul, Nat.reduceLT, Nat.reduceGT, Nat.reduceLeDiff, Nat.reduceEqDiff, Nat.reduceBEq, Nat.reduceBNe, Int.reduceAdd, Int.reduceSub, Int.reduceMul, Int.reduceNeg, Int.reduceDiv, Int.reduceMod, Int.reduceLT, Int.reduceLE, Int.reduceGT, Int.reduceGE, Int.reduceEq, Int.reduceNe, Int.reduceToNat, Int.reducePow, Int.reduceAbs, Int.reduceBEq, Int.reduceBNe, reduceIte, Nat.zero_add, Nat.sub_zero, Nat.add_zero, Int.natCast_one, Int.cast_ofNat_Int]
  · simp (disch := first | assumption | omega | (refine okR_int ?_ ?_ <;> omega) | exact OkE.str | (refine okE_of ?_ ?_ <;> (simp only [okE_tup, okE_lst, okEs_c, okEs_nil, okEs_ints, okE_int, okE_bl, okE_non, okE_str, okEs_app, Bool.and_self, Bool.and_true] <;> decide +kernel))) only [↓w_c, ↓w_var, ↓w_mv, ↓wa_nil, ↓wa_vw, ↓wa_ev, ↓wf_nil, ↓wf_l, ↓wf_r, ↓w_ap, ↓wi_nil, ↓wi_r, ↓w_apF, ↓wb_b, ↓w_tb, ↓w_tru, ↓tr1, ↓tr_bl, ↓tr_int, ↓tr_non, ↓tr_lst, ↓tr_tup, ↓w_not, ↓w_and, ↓w_or, ↓w_yes, ↓w_ife, ↓w_bl, ↓w_andV, ↓w_orV, ↓w_notV, ↓wn_i, ↓w_int, ↓w_chain, ↓hk_int, ↓hk_0, ↓hk_2, ↓hk_l, ↓hd_nil, ↓hd_l, ↓hd_r, ↓w_call, ↓w_callio, ↓is_l, ↓is_r, ↓is_s, ↓mk_nil, ↓mk_r, ↓mk_l, ↓ib_n, ↓ib_s, ↓ib_none, ↓wfl_n, ↓wfl_r, ↓w_run, ↓iv_n, ↓iv_z, ↓iv_s, ↓w_next, ↓w_break, ↓w_cont, ↓w_never, ↓wx_n, ↓wx_r, ↓wx_b, ↓wx_c, ↓w_seq, ↓w_set, ↓w_expr, ↓w_ret, ↓w_ifs, ↓wm_nil, ↓wm_c, ↓sm_nil, ↓sm_c, ↓w_par, ↓bt_n, ↓bt_t, ↓bt_l, ↓bts_n, ↓bts_c, ↓w_tgt, ↓w_it, ↓w_itV, ↓w_itF, ↓w_str, ↓w_itP, ↓w_for, ↓w_lc, ↓w_mut, ↓w_store, ↓st1, wp_ok, wp_no, wp_ex, br_t, br_f, br_not, gv_z, gv_s, sv_z, sv_s, nk_int, nk_bl, nk_str, nk_tup, nk_ro, nk_non, nk_lt, nk_lf, nk_f, kk_0, kk_1, wpo_some, wpo_none, wpo_map, wpo_bind, o_add, o_adds, o_addl, o_addt, o_sub, o_mul, o_mull, o_fd, o_md, o_pw, o_ng, o_lt, o_le, o_gt, o_ge, o_abs, o_int, o_intb, o_is_ti, o_is_tb, o_is_ts, o_is_tt, o_is_tl, o_tup, o_lst, o_lenl, o_lent, o_lenr, o_lens, o_ixl, o_ixt, o_ixr, ixL_o, ixL_m1, gRepr_ok, gEq_ok, gNe_ok, eqD_int, eqD_bl, eqD_non, eqD_tup, eqD_lst, eqD_str, eqDs_nil, eqDs_c, eqDs_cn, eqDs_nc, eqDs_ints, o_eqS, o_neS, o_eqI, o_neI, o_eqB, o_neB, o_allB, o_anyB, o_sumI, o_sumM, o_allM, o_anyM, o_max2, o_min2, o_maxI, o_minI, o_tuple, o_tuplet, o_list, o_listt, o_rng1, o_rng2, o_append, o_pop, o_set, wk_l, wk_t, wk_r, wk_s, mu_l, mu_d, d_mut_l, d_mut_i, d_mut_b, d_mut_s, d_mut_t, d_mut_n, ixN_o, List.set_cons_zero, List.set_cons_succ, List.getLast?_concat, o_sumAI, o_sumAM, o_sumAt, o_sumAt2, o_maxA2, o_minA2, o_maxAI, o_minAI, o_maxAt, o_minAt, o_inSS, o_ninSS, o_ixs, o_join, o_isb, o_isn, o_notb, o_notn, in_int, in_non, in_tup, in_lst, in_str, in_bl, o_inI, o_inIt, o_ninI, o_ninIt, o_inS, o_inSt, o_lrg1, o_lrg2, o_trg1, o_popAtI, o_sortI, o_sortIt, o_extend, o_revL, o_zipl, o_zipt, o_rev, o_enum, wfp_nil, wfp_r, wfp_l, fo_n, fo_c, fo_b, fo_r, un_nil, un_c, re_nil, re_c, ov_nil, ov_c, kOk_0, kOk_1, kOk_2, kOk_n, o_minB2, o_maxB2, o_minBI, o_maxBI, o_minBt, o_maxBt, o_sortBI, o_sortBIt, o_dict1i, o_dict1s, o_dicK, o_dicT, nk_dt, nk_df, d_mut_dic, o_is_td, in_dic, o_is_tn, o_enumAl, o_enumAt, o_mulT, o_dT0, o_putT, nk_dT, mut_dT, List.map_cons, List.map_nil, List.length_cons, List.length_nil, List.replicate_succ, List.replicate_zero, List.cons_append, List.nil_append, List.append_nil, List.length_map, List.length_range, List.drop_succ_cons, List.drop_zero, List.zip_cons_cons, List.zip_nil_right, List.zip_nil_left, List.getElem?_cons_zero, List.getElem?_cons_succ, Option.join_some, Option.join_none, Option.map_some, Option.map_none, decide_true, decide_false, decide_not, Bool.not_true, Bool.not_false, Bool.not_not, Bool.true_and, Bool.false_and, Bool.and_true, Bool.and_false, true_and, and_true, false_and, and_false, not_true_eq_false, not_false_eq_true, if_true, if_false, reduceCtorEq, Option.some.injEq, and_self, mb_l, mb_r, Nat.reduceAdd, Nat.reducePow, Nat.reduceSub, Nat.reduceMul, Nat.reduceLT, Nat.reduceGT, Nat.reduceLeDiff, Nat.reduceEqDiff, Nat.reduceBEq, Nat.reduceBNe, Int.reduceAdd, Int.reduceSub, Int.reduceMul, Int.reduceNeg, Int.reduceDiv, Int.reduceMod, Int.reduceLT, Int.reduceLE, Int.reduceGT, Int.reduceGE, Int.reduceEq, Int.reduceNe, Int.reduceToNat, Int.reducePow, Int.reduceAbs, Int.reduceBEq, Int.reduceBNe, reduceIte, Nat.zero_add, Nat.sub_zero, Nat.add_zero, Int.natCast_one, Int.cast_ofNat_Int, List.length_map]
    exact handOk_new hl
theorem q_draw : DrawOk F__law_draw := by
  rintro h m ⟨cells, h1, h2, h3, h4, rfl, p1, p2, pl, pc⟩ m0 m1
  have gc := getD_nn pc h1.toNat
  simp (disch := first | assumption | omega | (refine okR_int ?_ ?_ <;> omega) | exact OkE.str | (refine okE_of ?_ ?_ <;> (simp only [okE_tup, okE_lst, okEs_c, okEs_nil, okEs_ints, okE_int, okE_bl, okE_non, okE_str, okEs_app, Bool.and_self, Bool.and_true] <;> decide +kernel))) only [↓w_c, ↓w_var, ↓w_mv, ↓wa_nil, ↓wa_vw, ↓wa_ev, ↓wf_nil, ↓wf_l, ↓wf_r, ↓w_ap, ↓wi_nil, ↓wi_r, ↓w_apF, ↓wb_b, ↓w_tb, ↓w_tru, ↓tr1, ↓tr_bl, ↓tr_int, ↓tr_non, ↓tr_lst, ↓tr_tup, ↓w_not, ↓w_and, ↓w_or, ↓w_yes, ↓w_ife, ↓w_bl, ↓w_andV, ↓w_orV, ↓w_notV, ↓wn_i, ↓w_int, ↓w_chain, ↓hk_int, ↓hk_0, ↓hk_2, ↓hk_l, ↓hd_nil, ↓hd_l, ↓hd_r, ↓w_call, ↓w_callio, ↓is_l, ↓is_r, ↓is_s, ↓mk_nil, ↓mk_r, ↓mk_l, ↓ib_n, ↓ib_s, ↓ib_none, ↓wfl_n, ↓wfl_r, ↓w_run, ↓iv_n, ↓iv_z, ↓iv_s, ↓w_next, ↓w_break, ↓w_cont, ↓w_never, ↓wx_n, ↓wx_r, ↓wx_b, ↓wx_c, ↓w_seq, ↓w_set, ↓w_expr, ↓w_ret, ↓w_ifs, ↓wm_nil, ↓wm_c, ↓sm_nil, ↓sm_c, ↓w_par, ↓bt_n, ↓bt_t, ↓bt_l, ↓bts_n, ↓bts_c, ↓w_tgt, ↓w_it, ↓w_itV, ↓w_itF, ↓w_str, ↓w_itP, ↓w_for, ↓w_lc, ↓w_mut, ↓w_store, ↓st1, wp_ok, wp_no, wp_ex, br_t, br_f, br_not, gv_z, gv_s, sv_z, sv_s, nk_int, nk_bl, nk_str, nk_tup, nk_ro, nk_non, nk_lt, nk_lf, nk_f, kk_0, kk_1, wpo_some, wpo_none, wpo_map, wpo_bind, o_add, o_adds, o_addl, o_addt, o_sub, o_mul, o_mull, o_fd, o_md, o_pw, o_ng, o_lt, o_le, o_gt, o_ge, o_abs, o_int, o_intb, o_is_ti, o_is_tb, o_is_ts, o_is_tt, o_is_tl, o_tup, o_lst, o_lenl, o_lent, o_lenr, o_lens, o_ixl, o_ixt, o_ixr, ixL_o, ixL_m1, gRepr_ok, gEq_ok, gNe_ok, eqD_int, eqD_bl, eqD_non, eqD_tup, eqD_lst, eqD_str, eqDs_nil, eqDs_c, eqDs_cn, eqDs_nc, eqDs_ints, o_eqS, o_neS, o_eqI, o_neI, o_eqB, o_neB, o_allB, o_anyB, o_sumI, o_sumM, o_allM, o_anyM, o_max2, o_min2, o_maxI, o_minI, o_tuple, o_tuplet, o_list, o_listt, o_rng1, o_rng2, o_append, o_pop, o_set, wk_l, wk_t, wk_r, wk_s, mu_l, mu_d, d_mut_l, d_mut_i, d_mut_b, d_mut_s, d_mut_t, d_mut_n, ixN_o, List.set_cons_zero, List.set_cons_succ, List.getLast?_concat, o_sumAI, o_sumAM, o_sumAt, o_sumAt2, o_maxA2, o_minA2, o_maxAI, o_minAI, o_maxAt, o_minAt, o_inSS, o_ninSS, o_ixs, o_join, o_isb, o_isn, o_notb, o_notn, in_int, in_non, in_tup, in_lst, in_str, in_bl, o_inI, o_inIt, o_ninI, o_ninIt, o_inS, o_inSt, o_lrg1, o_lrg2, o_trg1, o_popAtI, o_sortI, o_sortIt, o_extend, o_revL, o_zipl, o_zipt, o_rev, o_enum, wfp_nil, wfp_r, wfp_l, fo_n, fo_c, fo_b, fo_r, un_nil, un_c, re_nil, re_c, ov_nil, ov_c, kOk_0, kOk_1, kOk_2, kOk_n, o_minB2, o_maxB2, o_minBI, o_maxBI, o_minBt, o_maxBt, o_sortBI, o_sortBIt, o_dict1i, o_dict1s, o_dicK, o_dicT, nk_dt, nk_df, d_mut_dic, o_is_td, in_dic, o_is_tn, o_enumAl, o_enumAt, o_mulT, o_dT0, o_putT, nk_dT, mut_dT, List.map_cons, List.map_nil, List.length_cons, List.length_nil, List.replicate_succ, List.replicate_zero, List.cons_append, List.nil_append, List.append_nil, List.length_map, List.length_range, List.drop_succ_cons, List.drop_zero, List.zip_cons_cons, List.zip_nil_right, List.zip_nil_left, List.getElem?_cons_zero, List.getElem?_cons_succ, Option.join_some, Option.join_none, Option.map_some, Option.map_none, decide_true, decide_false, decide_not, Bool.not_true, Bool.not_false, Bool.not_not, Bool.true_and, Bool.false_and, Bool.and_true, Bool.and_false, true_and, and_true, false_and, and_false, not_true_eq_false, not_false_eq_true, if_true, if_false, reduceCtorEq, Option.some.injEq, and_self, mb_l, mb_r, Nat.reduceAdd, Nat.reducePow, Nat.reduceSub, Nat.reduceMul, Nat.reduceLT, Nat.reduceGT, Nat.reduceLeDiff, Nat.reduceEqDiff, Nat.reduceBEq, Nat.reduceBNe, Int.reduceAdd, Int.reduceSub, Int.reduceMul, Int.reduceNeg, Int.reduceDiv, Int.reduceMod, Int.reduceLT, Int.reduceLE, Int.reduceGT, Int.reduceGE, Int.reduceEq, Int.reduceNe, Int.reduceToNat, Int.reducePow, Int.reduceAbs, Int.reduceBEq, Int.reduceBNe, reduceIte, Nat.zero_add, Nat.sub_zero, Nat.add_zero, Int.natCast_one, Int.cast_ofNat_Int, F__law_draw, b__law_draw]
  refine br_ci (fun e1 => ?_) (fun e1 => ?_)
  · simp (disch := first | assumption | omega | (refine okR_int ?_ ?_ <;> omega) | exact OkE.str | (refine okE_of ?_ ?_ <;> (simp only [okE_tup, okE_lst, okEs_c, okEs_nil, okEs_ints, okE_int, okE_bl, okE_non, okE_str, okEs_app, Bool.and_self, Bool.and_true] <;> decide +kernel))) only [↓w_c, ↓w_var, ↓w_mv, ↓wa_nil, ↓wa_vw, ↓wa_ev, ↓wf_nil, ↓wf_l, ↓wf_r, ↓w_ap, ↓wi_nil, ↓wi_r, ↓w_apF, ↓wb_b, ↓w_tb, ↓w_tru, ↓tr1, ↓tr_bl, ↓tr_int, ↓tr_non, ↓tr_lst, ↓tr_tup, ↓w_not, ↓w_and, ↓w_or, ↓w_yes, ↓w_ife, ↓w_bl, ↓w_andV, ↓w_orV, ↓w_notV, ↓wn_i, ↓w_int, ↓w_chain, ↓hk_int, ↓hk_0, ↓hk_2, ↓hk_l, ↓hd_nil, ↓hd_l, ↓hd_r, ↓w_call, ↓w_callio, ↓is_l, ↓is_r, ↓is_s, ↓mk_nil, ↓mk_r, ↓mk_l, ↓ib_n, ↓ib_s, ↓ib_none, ↓wfl_n, ↓wfl_r, ↓w_run, ↓iv_n, ↓iv_z, ↓iv_s, ↓w_next, ↓w_break, ↓w_cont, ↓w_never, ↓wx_n, ↓wx_r, ↓wx_b, ↓wx_c, ↓w_seq, ↓w_set, ↓w_expr, ↓w_ret, ↓w_ifs, ↓wm_nil, ↓wm_c, ↓sm_nil, ↓sm_c, ↓w_par, ↓bt_n, ↓bt_t, ↓bt_l, ↓bts_n, ↓bts_c, ↓w_tgt, ↓w_it, ↓w_itV, ↓w_itF, ↓w_str, ↓w_itP, ↓w_for, ↓w_lc, ↓w_mut, ↓w_store, ↓st1, wp_ok, wp_no, wp_ex, br_t, br_f, br_not, gv_z, gv_s, sv_z, sv_s, nk_int, nk_bl, nk_str, nk_tup, nk_ro, nk_non, nk_lt, nk_lf, nk_f, kk_0, kk_1, wpo_some, wpo_none, wpo_map, wpo_bind, o_add, o_adds, o_addl, o_addt, o_sub, o_mul, o_mull, o_fd, o_md, o_pw, o_ng, o_lt, o_le, o_gt, o_ge, o_abs, o_int, o_intb, o_is_ti, o_is_tb, o_is_ts, o_is_tt, o_is_tl, o_tup, o_lst, o_lenl, o_lent, o_lenr, o_lens, o_ixl, o_ixt, o_ixr, ixL_o, ixL_m1, gRepr_ok, gEq_ok, gNe_ok, eqD_int, eqD_bl, eqD_non, eqD_tup, eqD_lst, eqD_str, eqDs_nil, eqDs_c, eqDs_cn, eqDs_nc, eqDs_ints, o_eqS, o_neS, o_eqI, o_neI, o_eqB, o_neB, o_allB, o_anyB, o_sumI, o_sumM, o_allM, o_anyM, o_max2, o_min2, o_maxI, o_minI, o_tuple, o_tuplet, o_list, o_listt, o_rng1, o_rng2, o_append, o_pop, o_set, wk_l, wk_t, wk_r, wk_s, mu_l, mu_d, d_mut_l, d_mut_i, d_mut_b, d_mut_s, d_mut_t, d_mut_n, ixN_o, List.set_cons_zero, List.set_cons_succ, List.getLast?_concat, o_sumAI, o_sumAM, o_sumAt, o_sumAt2, o_maxA2, o_minA2, o_maxAI, o_minAI, o_maxAt, o_minAt, o_inSS, o_ninSS, o_ixs, o_join, o_isb, o_isn, o_notb, o_notn, in_int, in_non, in_tup, in_lst, in_str, in_bl, o_inI, o_inIt, o_ninI, o_ninIt, o_inS, o_inSt, o_lrg1, o_lrg2, o_trg1, o_popAtI, o_sortI, o_sortIt, o_extend, o_revL, o_zipl, o_zipt, o_rev, o_enum, wfp_nil, wfp_r, wfp_l, fo_n, fo_c, fo_b, fo_r, un_nil, un_c, re_nil, re_c, ov_nil, ov_c, kOk_0, kOk_1, kOk_2, kOk_n, o_minB2, o_maxB2, o_minBI, o_maxBI, o_minBt, o_maxBt, o_sortBI, o_sortBIt, o_dict1i, o_dict1s, o_dicK, o_dicT, nk_dt, nk_df, d_mut_dic, o_is_td, in_dic, o_is_tn, o_enumAl, o_enumAt, o_mulT, o_dT0, o_putT, nk_dT, mut_dT, List.map_cons, List.map_nil, List.length_cons, List.length_nil, List.replicate_succ, List.replicate_zero, List.cons_append, List.nil_append, List.append_nil, List.length_map, List.length_range, List.drop_succ_cons, List.drop_zero, List.zip_cons_cons, List.zip_nil_right, List.zip_nil_left, List.getElem?_cons_zero, List.getElem?_cons_succ, Option.join_some, Option.join_none, Option.map_some, Option.map_none, decide_true, decide_false, decide_not, Bool.not_true, Bool.not_false, Bool.not_not, Bool.true_and, Bool.false_and, Bool.and_true, Bool.and_false, true_and, and_true, false_and, and_false, not_true_eq_false, not_false_eq_true, if_true, if_false, reduceCtorEq, Option.some.injEq, and_self, mb_l, mb_r, Nat.reduceAdd, Nat.reducePow, Nat.reduceSub, Nat.reduceMul, Nat.reduceLT, Nat.reduceGT, Nat.reduceLeDiff, Nat.reduceEqDiff, Nat.reduceBEq, Nat.reduceBNe, Int.reduceAdd, Int.reduceSub, Int.reduceMul, Int.reduceNeg, Int.reduceDiv, Int.reduceMod, Int.reduceLT, Int.reduceLE, Int.reduceGT, Int.reduceGE, Int.reduceEq, Int.reduceNe, Int.reduceToNat, Int.reducePow, Int.reduceAbs, Int.reduceBEq, Int.reduceBNe, reduceIte, Nat.zero_add, Nat.sub_zero, Nat.add_zero, Int.natCast_one, Int.cast_ofNat_Int, List.length_map]
    refine br_ci (fun e2 => ?_) (fun e2 => ?_)
    · simp (disch := first | assumption | omega | (refine okR_int ?_ ?_ <;> omega) | exact OkE.str | (refine okE_of ?_ ?_ <;> (simp only [okE_tup, okE_lst, okEs_c, okEs_nil, okEs_ints, okE_int, okE_bl, okE_non, okE_str, okEs_app, Bool.and_self, Bool.and_true] <;> decide +kernel))) only [↓w_c, ↓w_var, ↓w_mv, ↓wa_nil, ↓wa_vw, ↓wa_ev, ↓wf_nil, ↓wf_l, ↓wf_r, ↓w_ap, ↓wi_nil, ↓wi_r, ↓w_apF, ↓wb_b, ↓w_tb, ↓w_tru, ↓tr1, ↓tr_bl, ↓tr_int, ↓tr_non, ↓tr_lst, ↓tr_tup, ↓w_not, ↓w_and, ↓w_or, ↓w_yes, ↓w_ife, ↓w_bl, ↓w_andV, ↓w_orV, ↓w_notV, ↓wn_i, ↓w_int, ↓w_chain, ↓hk_int, ↓hk_0, ↓hk_2, ↓hk_l, ↓hd_nil, ↓hd_l, ↓hd_r, ↓w_call, ↓w_callio, ↓is_l, ↓is_r, ↓is_s, ↓mk_nil, ↓mk_r, ↓mk_l, ↓ib_n, ↓ib_s, ↓ib_none, ↓wfl_n, ↓wfl_r, ↓w_run, ↓iv_n, ↓iv_z, ↓iv_s, ↓w_next, ↓w_break, ↓w_cont, ↓w_never, ↓wx_n, ↓wx_r, ↓wx_b, ↓wx_c, ↓w_seq, ↓w_set, ↓w_expr, ↓w_ret, ↓w_ifs, ↓wm_nil, ↓wm_c, ↓sm_nil, ↓sm_c, ↓w_par, ↓bt_n, ↓bt_t, ↓bt_l, ↓bts_n, ↓bts_c, ↓w_tgt, ↓w_it, ↓w_itV, ↓w_itF, ↓w_str, ↓w_itP, ↓w_for, ↓w_lc, ↓w_mut, ↓w_store, ↓st1, wp_ok, wp_no, wp_ex, br_t, br_f, br_not, gv_z, gv_s, sv_z, sv_s, nk_int, nk_bl, nk_str, nk_tup, nk_ro, nk_non, nk_lt, nk_lf, nk_f, kk_0, kk_1, wpo_some, wpo_none, wpo_map, wpo_bind, o_add, o_adds, o_addl, o_addt, o_sub, o_mul, o_mull, o_fd, o_md, o_pw, o_ng, o_lt, o_le, o_gt, o_ge, o_abs, o_int, o_intb, o_is_ti, o_is_tb, o_is_ts, o_is_tt, o_is_tl, o_tup, o_lst, o_lenl, o_lent, o_lenr, o_lens, o_ixl, o_ixt, o_ixr, ixL_o, ixL_m1, gRepr_ok, gEq_ok, gNe_ok, eqD_int, eqD_bl, eqD_non, eqD_tup, eqD_lst, eqD_str, eqDs_nil, eqDs_c, eqDs_cn, eqDs_nc, eqDs_ints, o_eqS, o_neS, o_eqI, o_neI, o_eqB, o_neB, o_allB, o_anyB, o_sumI, o_sumM, o_allM, o_anyM, o_max2, o_min2, o_maxI, o_minI, o_tuple, o_tuplet, o_list, o_listt, o_rng1, o_rng2, o_append, o_pop, o_set, wk_l, wk_t, wk_r, wk_s, mu_l, mu_d, d_mut_l, d_mut_i, d_mut_b, d_mut_s, d_mut_t, d_mut_n, ixN_o, List.set_cons_zero, List.set_cons_succ, List.getLast?_concat, o_sumAI, o_sumAM, o_sumAt, o_sumAt2, o_maxA2, o_minA2, o_maxAI, o_minAI, o_maxAt, o_minAt, o_inSS, o_ninSS, o_ixs, o_join, o_isb, o_isn, o_notb, o_notn, in_int, in_non, in_tup, in_lst, in_str, in_bl, o_inI, o_inIt, o_ninI, o_ninIt, o_inS, o_inSt, o_lrg1, o_lrg2, o_trg1, o_popAtI, o_sortI, o_sortIt, o_extend, o_revL, o_zipl, o_zipt, o_rev, o_enum, wfp_nil, wfp_r, wfp_l, fo_n, fo_c, fo_b, fo_r, un_nil, un_c, re_nil, re_c, ov_nil, ov_c, kOk_0, kOk_1, kOk_2, kOk_n, o_minB2, o_maxB2, o_minBI, o_maxBI, o_minBt, o_maxBt, o_sortBI, o_sortBIt, o_dict1i, o_dict1s, o_dicK, o_dicT, nk_dt, nk_df, d_mut_dic, o_is_td, in_dic, o_is_tn, o_enumAl, o_enumAt, o_mulT, o_dT0, o_putT, nk_dT, mut_dT, List.map_cons, List.map_nil, List.length_cons, List.length_nil, List.replicate_succ, List.replicate_zero, List.cons_append, List.nil_append, List.append_nil, List.length_map, List.length_range, List.drop_succ_cons, List.drop_zero, List.zip_cons_cons, List.zip_nil_right, List.zip_nil_left, List.getElem?_cons_zero, List.getElem?_cons_succ, Option.join_some, Option.join_none, Option.map_some, Option.map_none, decide_true, decide_false, decide_not, Bool.not_true, Bool.not_false, Bool.not_not, Bool.true_and, Bool.false_and, Bool.and_true, Bool.and_false, true_and, and_true, false_and, and_false, not_true_eq_false, not_false_eq_true, if_true, if_false, reduceCtorEq, Option.some.injEq, and_self, mb_l, mb_r, Nat.reduceAdd, Nat.reducePow, Nat.reduceSub, Nat.reduceMul, Nat.reduceLT, Nat.reduceGT, Nat.reduceLeDiff, Nat.reduceEqDiff, Nat.reduceBEq, Nat.reduceBNe, Int.reduceAdd, Int.reduceSub, Int.reduceMul, Int.reduceNeg, Int.reduceDiv, Int.reduceMod, Int.reduceLT, Int.reduceLE, Int.reduceGT, Int.reduceGE, Int.reduceEq, Int.reduceNe, Int.reduceToNat, Int.reducePow, Int.reduceAbs, Int.reduceBEq, Int.reduceBNe, reduceIte, Nat.zero_add, Nat.sub_zero, Nat.add_zero, Int.natCast_one, Int.cast_ofNat_Int, ixL_map]
      refine br_ci (fun e3 => ?_) (fun e3 => ?_)
      · simp (disch := first | assumption | omega | (refine okR_int ?_ ?_ <;> omega) | exact OkE.str | (refine okE_of ?_ ?_ <;> (simp only [okE_tup, okE_lst, okEs_c, okEs_nil, okEs_ints, okE_int, okE_bl, okE_non, okE_str, okEs_app, Bool.and_self, Bool.and_true] <;> decide +kernel))) only [↓w_c, ↓w_var, ↓w_mv, ↓wa_nil, ↓wa_vw, ↓wa_ev, ↓wf_nil, ↓wf_l, ↓wf_r, ↓w_ap, ↓wi_nil, ↓wi_r, ↓w_apF, ↓wb_b, ↓w_tb, ↓w_tru, ↓tr1, ↓tr_bl, ↓tr_int, ↓tr_non, ↓tr_lst, ↓tr_tup, ↓w_not, ↓w_and, ↓w_or, ↓w_yes, ↓w_ife, ↓w_bl, ↓w_andV, ↓w_orV, ↓w_notV, ↓wn_i, ↓w_int, ↓w_chain, ↓hk_int, ↓hk_0, ↓hk_2, ↓hk_l, ↓hd_nil, ↓hd_l, ↓hd_r, ↓w_call, ↓w_callio, ↓is_l, ↓is_r, ↓is_s, ↓mk_nil, ↓mk_r, ↓mk_l, ↓ib_n, ↓ib_s, ↓ib_none, ↓wfl_n, ↓wfl_r, ↓w_run, ↓iv_n, ↓iv_z, ↓iv_s, ↓w_next, ↓w_break, ↓w_cont, ↓w_never, ↓wx_n, ↓wx_r, ↓wx_b, ↓wx_c, ↓w_seq, ↓w_set, ↓w_expr, ↓w_ret, ↓w_ifs, ↓wm_nil, ↓wm_c, ↓sm_nil, ↓sm_c, ↓w_par, ↓bt_n, ↓bt_t, ↓bt_l, ↓bts_n, ↓bts_c, ↓w_tgt, ↓w_it, ↓w_itV, ↓w_itF, ↓w_str, ↓w_itP, ↓w_for, ↓w_lc, ↓w_mut, ↓w_store, ↓st1, wp_ok, wp_no, wp_ex, br_t, br_f, br_not, gv_z, gv_s, sv_z, sv_s, nk_int, nk_bl, nk_str, nk_tup, nk_ro, nk_non, nk_lt, nk_lf, nk_f, kk_0, kk_1, wpo_some, wpo_none, wpo_map, wpo_bind, o_add, o_adds, o_addl, o_addt, o_sub, o_mul, o_mull, o_fd, o_md, o_pw, o_ng, o_lt, o_le, o_gt, o_ge, o_abs, o_int, o_intb, o_is_ti, o_is_tb, o_is_ts, o_is_tt, o_is_tl, o_tup, o_lst, o_lenl, o_lent, o_lenr, o_lens, o_ixl, o_ixt, o_ixr, ixL_o, ixL_m1, gRepr_ok, gEq_ok, gNe_ok, eqD_int, eqD_bl, eqD_non, eqD_tup, eqD_lst, eqD_str, eqDs_nil, eqDs_c, eqDs_cn, eqDs_nc, eqDs_ints, o_eqS, o_neS, o_eqI, o_neI, o_eqB, o_neB, o_allB, o_anyB, o_sumI, o_sumM, o_allM, o_anyM, o_max2, o_min2, o_maxI, o_minI, o_tuple, o_tuplet, o_list, o_listt, o_rng1, o_rng2, o_append, o_pop, o_set, wk_l, wk_t, wk_r, wk_s, mu_l, mu_d, d_mut_l, d_mut_i, d_mut_b, d_mut_s, d_mut_t, d_mut_n, ixN_o, List.set_cons_zero, List.set_cons_succ, List.getLast?_concat, o_sumAI, o_sumAM, o_sumAt, o_sumAt2, o_maxA2, o_minA2, o_maxAI, o_minAI, o_maxAt, o_minAt, o_inSS, o_ninSS, o_ixs, o_join, o_isb, o_isn, o_notb, o_notn, in_int, in_non, in_tup, in_lst, in_str, in_bl, o_inI, o_inIt, o_ninI, o_ninIt, o_inS, o_inSt, o_lrg1, o_lrg2, o_trg1, o_popAtI, o_sortI, o_sortIt, o_extend, o_revL, o_zipl, o_zipt, o_rev, o_enum, wfp_nil, wfp_r, wfp_l, fo_n, fo_c, fo_b, fo_r, un_nil, un_c, re_nil, re_c, ov_nil, ov_c, kOk_0, kOk_1, kOk_2, kOk_n, o_minB2, o_maxB2, o_minBI, o_maxBI, o_minBt, o_maxBt, o_sortBI, o_sortBIt, o_dict1i, o_dict1s, o_dicK, o_dicT, nk_dt, nk_df, d_mut_dic, o_is_td, in_dic, o_is_tn, o_enumAl, o_enumAt, o_mulT, o_dT0, o_putT, nk_dT, mut_dT, List.map_cons, List.map_nil, List.length_cons, List.length_nil, List.replicate_succ, List.replicate_zero, List.cons_append, List.nil_append, List.append_nil, List.length_map, List.length_range, List.drop_succ_cons, List.drop_zero, List.zip_cons_cons, List.zip_nil_right, List.zip_nil_left, List.getElem?_cons_zero, List.getElem?_cons_succ, Option.join_some, Option.join_none, Option.map_some, Option.map_none, decide_true, decide_false, decide_not, Bool.not_true, Bool.not_false, Bool.not_not, Bool.true_and, Bool.false_and, Bool.and_true, Bool.and_false, true_and, and_true, false_and, and_false, not_true_eq_false, not_false_eq_true, if_true, if_false, reduceCtorEq, Option.some.injEq, and_self, mb_l, mb_r, Nat.reduceAdd, Nat.reducePow, Nat.reduceSub, Nat.reduceMul, Nat.reduceLT, Nat.reduceGT, Nat.reduceLeDiff, Nat.reduceEqDiff, Nat.reduceBEq, Nat.reduceBNe, Int.reduceAdd, Int.reduceSub, Int.reduceMul, Int.reduceNeg, Int.reduceDiv, Int.reduceMod, Int.reduceLT, Int.reduceLE, Int.reduceGT, Int.reduceGE, Int.reduceEq, Int.reduceNe, Int.reduceToNat, Int.reducePow, Int.reduceAbs, Int.reduceBEq, Int.reduceBNe, reduceIte, Nat.zero_add, Nat.sub_zero, Nat.add_zero, Int.natCast_one, Int.cast_ofNat_Int]
        refine br_cy (by omega) ?_
        simp (disch := first | assumption | omega | (refine okR_int ?_ ?_ <;> omega) | exact OkE.str | (refine okE_of ?_ ?_ <;> (simp only [okE_tup, okE_lst, okEs_c, okEs_nil, okEs_ints, okE_int, okE_bl, okE_non, okE_str, okEs_app, Bool.and_self, Bool.and_true] <;> decide +kernel))) only [↓w_c, ↓w_var, ↓w_mv, ↓wa_nil, ↓wa_vw, ↓wa_ev, ↓wf_nil, ↓wf_l, ↓wf_r, ↓w_ap, ↓wi_nil, ↓wi_r, ↓w_apF, ↓wb_b, ↓w_tb, ↓w_tru, ↓tr1, ↓tr_bl, ↓tr_int, ↓tr_non, ↓tr_lst, ↓tr_tup, ↓w_not, ↓w_and, ↓w_or, ↓w_yes, ↓w_ife, ↓w_bl, ↓w_andV, ↓w_orV, ↓w_notV, ↓wn_i, ↓w_int, ↓w_chain, ↓hk_int, ↓hk_0, ↓hk_2, ↓hk_l, ↓hd_nil, ↓hd_l, ↓hd_r, ↓w_call, ↓w_callio, ↓is_l, ↓is_r, ↓is_s, ↓mk_nil, ↓mk_r, ↓mk_l, ↓ib_n, ↓ib_s, ↓ib_none, ↓wfl_n, ↓wfl_r, ↓w_run, ↓iv_n, ↓iv_z, ↓iv_s, ↓w_next, ↓w_break, ↓w_cont, ↓w_never, ↓wx_n, ↓wx_r, ↓wx_b, ↓wx_c, ↓w_seq, ↓w_set, ↓w_expr, ↓w_ret, ↓w_ifs, ↓wm_nil, ↓wm_c, ↓sm_nil, ↓sm_c, ↓w_par, ↓bt_n, ↓bt_t, ↓bt_l, ↓bts_n, ↓bts_c, ↓w_tgt, ↓w_it, ↓w_itV, ↓w_itF, ↓w_str, ↓w_itP, ↓w_for, ↓w_lc, ↓w_mut, ↓w_store, ↓st1, wp_ok, wp_no, wp_ex, br_t, br_f, br_not, gv_z, gv_s, sv_z, sv_s, nk_int, nk_bl, nk_str, nk_tup, nk_ro, nk_non, nk_lt, nk_lf, nk_f, kk_0, kk_1, wpo_some, wpo_none, wpo_map, wpo_bind, o_add, o_adds, o_addl, o_addt, o_sub, o_mul, o_mull, o_fd, o_md, o_pw, o_ng, o_lt, o_le, o_gt, o_ge, o_abs, o_int, o_intb, o_is_ti, o_is_tb, o_is_ts, o_is_tt, o_is_tl, o_tup, o_lst, o_lenl, o_lent, o_lenr, o_lens, o_ixl, o_ixt, o_ixr, ixL_o, ixL_m1, gRepr_ok, gEq_ok, gNe_ok, eqD_int, eqD_bl, eqD_non, eqD_tup, eqD_lst, eqD_str, eqDs_nil, eqDs_c, eqDs_cn, eqDs_nc, eqDs_ints, o_eqS, o_neS, o_eqI, o_neI, o_eqB, o_neB, o_allB, o_anyB, o_sumI, o_sumM, o_allM, o_anyM, o_max2, o_min2, o_maxI, o_minI, o_tuple, o_tuplet, o_list, o_listt, o_rng1, o_rng2, o_append, o_pop, o_set, wk_l, wk_t, wk_r, wk_s, mu_l, mu_d, d_mut_l, d_mut_i, d_mut_b, d_mut_s, d_mut_t, d_mut_n, ixN_o, List.set_cons_zero, List.set_cons_succ, List.getLast?_concat, o_sumAI, o_sumAM, o_sumAt, o_sumAt2, o_maxA2, o_minA2, o_maxAI, o_minAI, o_maxAt, o_minAt, o_inSS, o_ninSS, o_ixs, o_join, o_isb, o_isn, o_notb, o_notn, in_int, in_non, in_tup, in_lst, in_str, in_bl, o_inI, o_inIt, o_ninI, o_ninIt, o_inS, o_inSt, o_lrg1, o_lrg2, o_trg1, o_popAtI, o_sortI, o_sortIt, o_extend, o_revL, o_zipl, o_zipt, o_rev, o_enum, wfp_nil, wfp_r, wfp_l, fo_n, fo_c, fo_b, fo_r, un_nil, un_c, re_nil, re_c, ov_nil, ov_c, kOk_0, kOk_1, kOk_2, kOk_n, o_minB2, o_maxB2, o_minBI, o_maxBI, o_minBt, o_maxBt, o_sortBI, o_sortBIt, o_dict1i, o_dict1s, o_dicK, o_dicT, nk_dt, nk_df, d_mut_dic, o_is_td, in_dic, o_is_tn, o_enumAl, o_enumAt, o_mulT, o_dT0, o_putT, nk_dT, mut_dT, List.map_cons, List.map_nil, List.length_cons, List.length_nil, List.replicate_succ, List.replicate_zero, List.cons_append, List.nil_append, List.append_nil, List.length_map, List.length_range, List.drop_succ_cons, List.drop_zero, List.zip_cons_cons, List.zip_nil_right, List.zip_nil_left, List.getElem?_cons_zero, List.getElem?_cons_succ, Option.join_some, Option.join_none, Option.map_some, Option.map_none, decide_true, decide_false, decide_not, Bool.not_true, Bool.not_false, Bool.not_not, Bool.true_and, Bool.false_and, Bool.and_true, Bool.and_false, true_and, and_true, false_and, and_false, not_true_eq_false, not_false_eq_true, if_true, if_false, reduceCtorEq, Option.some.injEq, and_self, mb_l, mb_r, Nat.reduceAdd, Nat.reducePow, Nat.reduceSub, Nat.reduceMul, Nat.reduceLT, Nat.reduceGT, Nat.reduceLeDiff, Nat.reduceEqDiff, Nat.reduceBEq, Nat.reduceBNe, Int.reduceAdd, Int.reduceSub, Int.reduceMul, Int.reduceNeg, Int.reduceDiv, Int.reduceMod, Int.reduceLT, Int.reduceLE, Int.reduceGT, Int.reduceGE, Int.reduceEq, Int.reduceNe, Int.reduceToNat, Int.reducePow, Int.reduceAbs, Int.reduceBEq, Int.reduceBNe, reduceIte, Nat.zero_add, Nat.sub_zero, Nat.add_zero, Int.natCast_one, Int.cast_ofNat_Int]
        exact ⟨m0, ⟨m0, m1⟩, _, _, rfl, Int.emod_nonneg _ (by omega), Int.emod_lt_of_pos _ m0, rfl, handOk_mk (by omega) (Int.ediv_nonneg (by omega) (by omega)) pl pc⟩
      · simp (disch := first | assumption | omega | (refine okR_int ?_ ?_ <;> omega) | exact OkE.str | (refine okE_of ?_ ?_ <;> (simp only [okE_tup, okE_lst, okEs_c, okEs_nil, okEs_ints, okE_int, okE_bl, okE_non, okE_str, okEs_app, Bool.and_self, Bool.and_true] <;> decide +kernel))) only [↓w_c, ↓w_var, ↓w_mv, ↓wa_nil, ↓wa_vw, ↓wa_ev, ↓wf_nil, ↓wf_l, ↓wf_r, ↓w_ap, ↓wi_nil, ↓wi_r, ↓w_apF, ↓wb_b, ↓w_tb, ↓w_tru, ↓tr1, ↓tr_bl, ↓tr_int, ↓tr_non, ↓tr_lst, ↓tr_tup, ↓w_not, ↓w_and, ↓w_or, ↓w_yes, ↓w_ife, ↓w_bl, ↓w_andV, ↓w_orV, ↓w_notV, ↓wn_i, ↓w_int, ↓w_chain, ↓hk_int, ↓hk_0, ↓hk_2, ↓hk_l, ↓hd_nil, ↓hd_l, ↓hd_r, ↓w_call, ↓w_callio, ↓is_l, ↓is_r, ↓is_s, ↓mk_nil, ↓mk_r, ↓mk_l, ↓ib_n, ↓ib_s, ↓ib_none, ↓wfl_n, ↓wfl_r, ↓w_run, ↓iv_n, ↓iv_z, ↓iv_s, ↓w_next, ↓w_break, ↓w_cont, ↓w_never, ↓wx_n, ↓wx_r, ↓wx_b, ↓wx_c, ↓w_seq, ↓w_set, ↓w_expr, ↓w_ret, ↓w_ifs, ↓wm_nil, ↓wm_c, ↓sm_nil, ↓sm_c, ↓w_par, ↓bt_n, ↓bt_t, ↓bt_l, ↓bts_n, ↓bts_c, ↓w_tgt, ↓w_it, ↓w_itV, ↓w_itF, ↓w_str, ↓w_itP, ↓w_for, ↓w_lc, ↓w_mut, ↓w_store, ↓st1, wp_ok, wp_no, wp_ex, br_t, br_f, br_not, gv_z, gv_s, sv_z, sv_s, nk_int, nk_bl, nk_str, nk_tup, nk_ro, nk_non, nk_lt, nk_lf, nk_f, kk_0, kk_1, wpo_some, wpo_none, wpo_map, wpo_bind, o_add, o_adds, o_addl, o_addt, o_sub, o_mul, o_mull, o_fd, o_md, o_pw, o_ng, o_lt, o_le, o_gt, o_ge, o_abs, o_int, o_intb, o_is_ti, o_is_tb, o_is_ts, o_is_tt, o_is_tl, o_tup, o_lst, o_lenl, o_lent, o_lenr, o_lens, o_ixl, o_ixt, o_ixr, ixL_o, ixL_m1, gRepr_ok, gEq_ok, gNe_ok, eqD_int, eqD_bl, eqD_non, eqD_tup, eqD_lst, eqD_str, eqDs_nil, eqDs_c, eqDs_cn, eqDs_nc, eqDs_ints, o_eqS, o_neS, o_eqI, o_neI, o_eqB, o_neB, o_allB, o_anyB, o_sumI, o_sumM, o_allM, o_anyM, o_max2, o_min2, o_maxI, o_minI, o_tuple, o_tuplet, o_list, o_listt, o_rng1, o_rng2, o_append, o_pop, o_set, wk_l, wk_t, wk_r, wk_s, mu_l, mu_d, d_mut_l, d_mut_i, d_mut_b, d_mut_s, d_mut_t, d_mut_n, ixN_o, List.set_cons_zero, List.set_cons_succ, List.getLast?_concat, o_sumAI, o_sumAM, o_sumAt, o_sumAt2, o_maxA2, o_minA2, o_maxAI, o_minAI, o_maxAt, o_minAt, o_inSS, o_ninSS, o_ixs, o_join, o_isb, o_isn, o_notb, o_notn, in_int, in_non, in_tup, in_lst, in_str, in_bl, o_inI, o_inIt, o_ninI, o_ninIt, o_inS, o_inSt, o_lrg1, o_lrg2, o_trg1, o_popAtI, o_sortI, o_sortIt, o_extend, o_revL, o_zipl, o_zipt, o_rev, o_enum, wfp_nil, wfp_r, wfp_l, fo_n, fo_c, fo_b, fo_r, un_nil, un_c, re_nil, re_c, ov_nil, ov_c, kOk_0, kOk_1, kOk_2, kOk_n, o_minB2, o_maxB2, o_minBI, o_maxBI, o_minBt, o_maxBt, o_sortBI, o_sortBIt, o_dict1i, o_dict1s, o_dicK, o_dicT, nk_dt, nk_df, d_mut_dic, o_is_td, in_dic, o_is_tn, o_enumAl, o_enumAt, o_mulT, o_dT0, o_putT, nk_dT, mut_dT, List.map_cons, List.map_nil, List.length_cons, List.length_nil, List.replicate_succ, List.replicate_zero, List.cons_append, List.nil_append, List.append_nil, List.length_map, List.length_range, List.drop_succ_cons, List.drop_zero, List.zip_cons_cons, List.zip_nil_right, List.zip_nil_left, List.getElem?_cons_zero, List.getElem?_cons_succ, Option.join_some, Option.join_none, Option.map_some, Option.map_none, decide_true, decide_false, decide_not, Bool.not_true, Bool.not_false, Bool.not_not, Bool.true_and, Bool.false_and, Bool.and_true, Bool.and_false, true_and, and_true, false_and, and_false, not_true_eq_false, not_false_eq_true, if_true, if_false, reduceCtorEq, Option.some.injEq, and_self, mb_l, mb_r, Nat.reduceAdd, Nat.reducePow, Nat.reduceSub, Nat.reduceMul, Nat.reduceLT, Nat.reduceGT, Nat.reduceLeDiff, Nat.reduceEqDiff, Nat.reduceBEq, Nat.reduceBNe, Int.reduceAdd, Int.reduceSub, Int.reduceMul, Int.reduceNeg, Int.reduceDiv, Int.reduceMod, Int.reduceLT, Int.reduceLE, Int.reduceGT, Int.reduceGE, Int.reduceEq, Int.reduceNe, Int.reduceToNat, Int.reducePow, Int.reduceAbs, Int.reduceBEq, Int.reduceBNe, reduceIte, Nat.zero_add, Nat.sub_zero, Nat.add_zero, Int.natCast_one, Int.cast_ofNat_Int]
        first
          | exact ⟨m0, _, _, rfl, Int.emod_nonneg _ (by omega), Int.emod_lt_of_pos _ m0, rfl, handOk_mk (by omega) (by omega) pl pc⟩
          | (refine br_cn (by omega) ?_
             simp (disch := first | assumption | omega | (refine okR_int ?_ ?_ <;> omega) | exact OkE.str | (refine okE_of ?_ ?_ <;> (simp only [okE_tup, okE_lst, okEs_c, okEs_nil, okEs_ints, okE_int, okE_bl, okE_non, okE_str, okEs_app, Bool.and_self, Bool.and_true] <;> decide +kernel))) only [↓w_c, ↓w_var, ↓w_mv, ↓wa_nil, ↓wa_vw, ↓wa_ev, ↓wf_nil, ↓wf_l, ↓wf_r, ↓w_ap, ↓wi_nil, ↓wi_r, ↓w_apF, ↓wb_b, ↓w_tb, ↓w_tru, ↓tr1, ↓tr_bl, ↓tr_int, ↓tr_non, ↓tr_lst, ↓tr_tup, ↓w_not, ↓w_and, ↓w_or, ↓w_yes, ↓w_ife, ↓w_bl, ↓w_andV, ↓w_orV, ↓w_notV, ↓wn_i, ↓w_int, ↓w_chain, ↓hk_int, ↓hk_0, ↓hk_2, ↓hk_l, ↓hd_nil, ↓hd_l, ↓hd_r, ↓w_call, ↓w_callio, ↓is_l, ↓is_r, ↓is_s, ↓mk_nil, ↓mk_r, ↓mk_l, ↓ib_n, ↓ib_s, ↓ib_none, ↓wfl_n, ↓wfl_r, ↓w_run, ↓iv_n, ↓iv_z, ↓iv_s, ↓w_next, ↓w_break, ↓w_cont, ↓w_never, ↓wx_n, ↓wx_r, ↓wx_b, ↓wx_c, ↓w_seq, ↓w_set, ↓w_expr, ↓w_ret, ↓w_ifs, ↓wm_nil, ↓wm_c, ↓sm_nil, ↓sm_c, ↓w_par, ↓bt_n, ↓bt_t, ↓bt_l, ↓bts_n, ↓bts_c, ↓w_tgt, ↓w_it, ↓w_itV, ↓w_itF, ↓w_str, ↓w_itP, ↓w_for, ↓w_lc, ↓w_mut, ↓w_store, ↓st1, wp_ok, wp_no, wp_ex, br_t, br_f, br_not, gv_z, gv_s, sv_z, sv_s, nk_int, nk_bl, nk_str, nk_tup, nk_ro, nk_non, nk_lt, nk_lf, nk_f, kk_0, kk_1, wpo_some, wpo_none, wpo_map, wpo_bind, o_add, o_adds, o_addl, o_addt, o_sub, o_mul, o_mull, o_fd, o_md, o_pw, o_ng, o_lt, o_le, o_gt, o_ge, o_abs, o_int, o_intb, o_is_ti, o_is_tb, o_is_ts, o_is_tt, o_is_tl, o_tup, o_lst, o_lenl, o_lent, o_lenr, o_lens, o_ixl, o_ixt, o_ixr, ixL_o, ixL_m1, gRepr_ok, gEq_ok, gNe_ok, eqD_int, eqD_bl, eqD_non, eqD_tup, eqD_lst, eqD_str, eqDs_nil, eqDs_c, eqDs_cn, eqDs_nc, eqDs_ints, o_eqS, o_neS, o_eqI, o_neI, o_eqB, o_neB, o_allB, o_anyB, o_sumI, o_sumM, o_allM, o_anyM, o_max2, o_min2, o_maxI, o_minI, o_tuple, o_tuplet, o_list, o_listt, o_rng1, o_rng2, o_append, o_pop, o_set, wk_l, wk_t, wk_r, wk_s, mu_l, mu_d, d_mut_l, d_mut_i, d_mut_b, d_mut_s, d_mut_t, d_mut_n, ixN_o, List.set_cons_zero, List.set_cons_succ, List.getLast?_concat, o_sumAI, o_sumAM, o_sumAt, o_sumAt2, o_maxA2, o_minA2, o_maxAI, o_minAI, o_maxAt, o_minAt, o_inSS, o_ninSS, o_ixs, o_join, o_isb, o_isn, o_notb, o_notn, in_int, in_non, in_tup, in_lst, in_str, in_bl, o_inI, o_inIt, o_ninI, o_ninIt, o_inS, o_inSt, o_lrg1, o_lrg2, o_trg1, o_popAtI, o_sortI, o_sortIt, o_extend, o_revL, o_zipl, o_zipt, o_rev, o_enum, wfp_nil, wfp_r, wfp_l, fo_n, fo_c, fo_b, fo_r, un_nil, un_c, re_nil, re_c, ov_nil, ov_c, kOk_0, kOk_1, kOk_2, kOk_n, o_minB2, o_maxB2, o_minBI, o_maxBI, o_minBt, o_maxBt, o_sortBI, o_sortBIt, o_dict1i, o_dict1s, o_dicK, o_dicT, nk_dt, nk_df, d_mut_dic, o_is_td, in_dic, o_is_tn, o_enumAl, o_enumAt, o_mulT, o_dT0, o_putT, nk_dT, mut_dT, List.map_cons, List.map_nil, List.length_cons, List.length_nil, List.replicate_succ, List.replicate_zero, List.cons_append, List.nil_append, List.append_nil, List.length_map, List.length_range, List.drop_succ_cons, List.drop_zero, List.zip_cons_cons, List.zip_nil_right, List.zip_nil_left, List.getElem?_cons_zero, List.getElem?_cons_succ, Option.join_some, Option.join_none, Option.map_some, Option.map_none, decide_true, decide_false, decide_not, Bool.not_true, Bool.not_false, Bool.not_not, Bool.true_and, Bool.false_and, Bool.and_true, Bool.and_false, true_and, and_true, false_and, and_false, not_true_eq_false, not_false_eq_true, if_true, if_false, reduceCtorEq, Option.some.injEq, and_self, mb_l, mb_r, Nat.reduceAdd, Nat.reducePow, Nat.reduceSub, Nat.reduceMul, Nat.reduceLT, Nat.reduceGT, Nat.reduceLeDiff, Nat.reduceEqDiff, Nat.reduceBEq, Nat.reduceBNe, Int.reduceAdd, Int.reduceSub, Int.reduceMul, Int.reduceNeg, Int.reduceDiv, Int.reduceMod, Int.reduceLT, Int.reduceLE, Int.reduceGT, Int.reduceGE, Int.reduceEq, Int.reduceNe, Int.reduceToNat, Int.reducePow, Int.reduceAbs, Int.reduceBEq, Int.reduceBNe, reduceIte, Nat.zero_add, Nat.sub_zero, Nat.add_zero, Int.natCast_one, Int.cast_ofNat_Int]
             exact ⟨m0, _, _, rfl, Int.emod_nonneg _ (by omega), Int.emod_lt_of_pos _ m0, rfl, handOk_mk (by omega) (by omega) pl pc⟩)
    · simp (disch := first | assumption | omega | (refine okR_int ?_ ?_ <;> omega) | exact OkE.str | (refine okE_of ?_ ?_ <;> (simp only [okE_tup, okE_lst, okEs_c, okEs_nil, okEs_ints, okE_int, okE_bl, okE_non, okE_str, okEs_app, Bool.and_self, Bool.and_true] <;> decide +kernel))) only [↓w_c, ↓w_var, ↓w_mv, ↓wa_nil, ↓wa_vw, ↓wa_ev, ↓wf_nil, ↓wf_l, ↓wf_r, ↓w_ap, ↓wi_nil, ↓wi_r, ↓w_apF, ↓wb_b, ↓w_tb, ↓w_tru, ↓tr1, ↓tr_bl, ↓tr_int, ↓tr_non, ↓tr_lst, ↓tr_tup, ↓w_not, ↓w_and, ↓w_or, ↓w_yes, ↓w_ife, ↓w_bl, ↓w_andV, ↓w_orV, ↓w_notV, ↓wn_i, ↓w_int, ↓w_chain, ↓hk_int, ↓hk_0, ↓hk_2, ↓hk_l, ↓hd_nil, ↓hd_l, ↓hd_r, ↓w_call, ↓w_callio, ↓is_l, ↓is_r, ↓is_s, ↓mk_nil, ↓mk_r, ↓mk_l, ↓ib_n, ↓ib_s, ↓ib_none, ↓wfl_n, ↓wfl_r, ↓w_run, ↓iv_n, ↓iv_z, ↓iv_s, ↓w_next, ↓w_break, ↓w_cont, ↓w_never, ↓wx_n, ↓wx_r, ↓wx_b, ↓wx_c, ↓w_seq, ↓w_set, ↓w_expr, ↓w_ret, ↓w_ifs, ↓wm_nil, ↓wm_c, ↓sm_nil, ↓sm_c, ↓w_par, ↓bt_n, ↓bt_t, ↓bt_l, ↓bts_n, ↓bts_c, ↓w_tgt, ↓w_it, ↓w_itV, ↓w_itF, ↓w_str, ↓w_itP, ↓w_for, ↓w_lc, ↓w_mut, ↓w_store, ↓st1, wp_ok, wp_no, wp_ex, br_t, br_f, br_not, gv_z, gv_s, sv_z, sv_s, nk_int, nk_bl, nk_str, nk_tup, nk_ro, nk_non, nk_lt, nk_lf, nk_f, kk_0, kk_1, wpo_some, wpo_none, wpo_map, wpo_bind, o_add, o_adds, o_addl, o_addt, o_sub, o_mul, o_mull, o_fd, o_md, o_pw, o_ng, o_lt, o_le, o_gt, o_ge, o_abs, o_int, o_intb, o_is_ti, o_is_tb, o_is_ts, o_is_tt, o_is_tl, o_tup, o_lst, o_lenl, o_lent, o_lenr, o_lens, o_ixl, o_ixt, o_ixr, ixL_o, ixL_m1, gRepr_ok, gEq_ok, gNe_ok, eqD_int, eqD_bl, eqD_non, eqD_tup, eqD_lst, eqD_str, eqDs_nil, eqDs_c, eqDs_cn, eqDs_nc, eqDs_ints, o_eqS, o_neS, o_eqI, o_neI, o_eqB, o_neB, o_allB, o_anyB, o_sumI, o_sumM, o_allM, o_anyM, o_max2, o_min2, o_maxI, o_minI, o_tuple, o_tuplet, o_list, o_listt, o_rng1, o_rng2, o_append, o_pop, o_set, wk_l, wk_t, wk_r, wk_s, mu_l, mu_d, d_mut_l, d_mut_i, d_mut_b, d_mut_s, d_mut_t, d_mut_n, ixN_o, List.set_cons_zero, List.set_cons_succ, List.getLast?_concat, o_sumAI, o_sumAM, o_sumAt, o_sumAt2, o_maxA2, o_minA2, o_maxAI, o_minAI, o_maxAt, o_minAt, o_inSS, o_ninSS, o_ixs, o_join, o_isb, o_isn, o_notb, o_notn, in_int, in_non, in_tup, in_lst, in_str, in_bl, o_inI, o_inIt, o_ninI, o_ninIt, o_inS, o_inSt, o_lrg1, o_lrg2, o_trg1, o_popAtI, o_sortI, o_sortIt, o_extend, o_revL, o_zipl, o_zipt, o_rev, o_enum, wfp_nil, wfp_r, wfp_l, fo_n, fo_c, fo_b, fo_r, un_nil, un_c, re_nil, re_c, ov_nil, ov_c, kOk_0, kOk_1, kOk_2, kOk_n, o_minB2, o_maxB2, o_minBI, o_maxBI, o_minBt, o_maxBt, o_sortBI, o_sortBIt, o_dict1i, o_dict1s, o_dicK, o_dicT, nk_dt, nk_df, d_mut_dic, o_is_td, in_dic, o_is_tn, o_enumAl, o_enumAt, o_mulT, o_dT0, o_putT, nk_dT, mut_dT, List.map_cons, List.map_nil, List.length_cons, List.length_nil, List.replicate_succ, List.replicate_zero, List.cons_append, List.nil_append, List.append_nil, List.length_map, List.length_range, List.drop_succ_cons, List.drop_zero, List.zip_cons_cons, List.zip_nil_right, List.zip_nil_left, List.getElem?_cons_zero, List.getElem?_cons_succ, Option.join_some, Option.join_none, Option.map_some, Option.map_none, decide_true, decide_false, decide_not, Bool.not_true, Bool.not_false, Bool.not_not, Bool.true_and, Bool.false_and, Bool.and_true, Bool.and_false, true_and, and_true, false_and, and_false, not_true_eq_false, not_false_eq_true, if_true, if_false, reduceCtorEq, Option.some.injEq, and_self, mb_l, mb_r, Nat.reduceAdd, Nat.reducePow, Nat.reduceSub, Nat.reduceMul, Nat.reduceLT, Nat.reduceGT, Nat.reduceLeDiff, Nat.reduceEqDiff, Nat.reduceBEq, Nat.reduceBNe, Int.reduceAdd, Int.reduceSub, Int.reduceMul, Int.reduceNeg, Int.reduceDiv, Int.reduceMod, Int.reduceLT, Int.reduceLE, Int.reduceGT, Int.reduceGE, Int.reduceEq, Int.reduceNe, Int.reduceToNat, Int.reducePow, Int.reduceAbs, Int.reduceBEq, Int.reduceBNe, reduceIte, Nat.zero_add, Nat.sub_zero, Nat.add_zero, Int.natCast_one, Int.cast_ofNat_Int]
      refine br_cn (by omega) ?_
      simp (disch := first | assumption | omega | (refine okR_int ?_ ?_ <;> omega) | exact OkE.str | (refine okE_of ?_ ?_ <;> (simp only [okE_tup, okE_lst, okEs_c, okEs_nil, okEs_ints, okE_int, okE_bl, okE_non, okE_str, okEs_app, Bool.and_self, Bool.and_true] <;> decide +kernel))) only [↓w_c, ↓w_var, ↓w_mv, ↓wa_nil, ↓wa_vw, ↓wa_ev, ↓wf_nil, ↓wf_l, ↓wf_r, ↓w_ap, ↓wi_nil, ↓wi_r, ↓w_apF, ↓wb_b, ↓w_tb, ↓w_tru, ↓tr1, ↓tr_bl, ↓tr_int, ↓tr_non, ↓tr_lst, ↓tr_tup, ↓w_not, ↓w_and, ↓w_or, ↓w_yes, ↓w_ife, ↓w_bl, ↓w_andV, ↓w_orV, ↓w_notV, ↓wn_i, ↓w_int, ↓w_chain, ↓hk_int, ↓hk_0, ↓hk_2, ↓hk_l, ↓hd_nil, ↓hd_l, ↓hd_r, ↓w_call, ↓w_callio, ↓is_l, ↓is_r, ↓is_s, ↓mk_nil, ↓mk_r, ↓mk_l, ↓ib_n, ↓ib_s, ↓ib_none, ↓wfl_n, ↓wfl_r, ↓w_run, ↓iv_n, ↓iv_z, ↓iv_s, ↓w_next, ↓w_break, ↓w_cont, ↓w_never, ↓wx_n, ↓wx_r, ↓wx_b, ↓wx_c, ↓w_seq, ↓w_set, ↓w_expr, ↓w_ret, ↓w_ifs, ↓wm_nil, ↓wm_c, ↓sm_nil, ↓sm_c, ↓w_par, ↓bt_n, ↓bt_t, ↓bt_l, ↓bts_n, ↓bts_c, ↓w_tgt, ↓w_it, ↓w_itV, ↓w_itF, ↓w_str, ↓w_itP, ↓w_for, ↓w_lc, ↓w_mut, ↓w_store, ↓st1, wp_ok, wp_no, wp_ex, br_t, br_f, br_not, gv_z, gv_s, sv_z, sv_s, nk_int, nk_bl, nk_str, nk_tup, nk_ro, nk_non, nk_lt, nk_lf, nk_f, kk_0, kk_1, wpo_some, wpo_none, wpo_map, wpo_bind, o_add, o_adds, o_addl, o_addt, o_sub, o_mul, o_mull, o_fd, o_md, o_pw, o_ng, o_lt, o_le, o_gt, o_ge, o_abs, o_int, o_intb, o_is_ti, o_is_tb, o_is_ts, o_is_tt, o_is_tl, o_tup, o_lst, o_lenl, o_lent, o_lenr, o_lens, o_ixl, o_ixt, o_ixr, ixL_o, ixL_m1, gRepr_ok, gEq_ok, gNe_ok, eqD_int, eqD_bl, eqD_non, eqD_tup, eqD_lst, eqD_str, eqDs_nil, eqDs_c, eqDs_cn, eqDs_nc, eqDs_ints, o_eqS, o_neS, o_eqI, o_neI, o_eqB, o_neB, o_allB, o_anyB, o_sumI, o_sumM, o_allM, o_anyM, o_max2, o_min2, o_maxI, o_minI, o_tuple, o_tuplet, o_list, o_listt, o_rng1, o_rng2, o_append, o_pop, o_set, wk_l, wk_t, wk_r, wk_s, mu_l, mu_d, d_mut_l, d_mut_i, d_mut_b, d_mut_s, d_mut_t, d_mut_n, ixN_o, List.set_cons_zero, List.set_cons_succ, List.getLast?_concat, o_sumAI, o_sumAM, o_sumAt, o_sumAt2, o_maxA2, o_minA2, o_maxAI, o_minAI, o_maxAt, o_minAt, o_inSS, o_ninSS, o_ixs, o_join, o_isb, o_isn, o_notb, o_notn, in_int, in_non, in_tup, in_lst, in_str, in_bl, o_inI, o_inIt, o_ninI, o_ninIt, o_inS, o_inSt, o_lrg1, o_lrg2, o_trg1, o_popAtI, o_sortI, o_sortIt, o_extend, o_revL, o_zipl, o_zipt, o_rev, o_enum, wfp_nil, wfp_r, wfp_l, fo_n, fo_c, fo_b, fo_r, un_nil, un_c, re_nil, re_c, ov_nil, ov_c, kOk_0, kOk_1, kOk_2, kOk_n, o_minB2, o_maxB2, o_minBI, o_maxBI, o_minBt, o_maxBt, o_sortBI, o_sortBIt, o_dict1i, o_dict1s, o_dicK, o_dicT, nk_dt, nk_df, d_mut_dic, o_is_td, in_dic, o_is_tn, o_enumAl, o_enumAt, o_mulT, o_dT0, o_putT, nk_dT, mut_dT, List.map_cons, List.map_nil, List.length_cons, List.length_nil, List.replicate_succ, List.replicate_zero, List.cons_append, List.nil_append, List.append_nil, List.length_map, List.length_range, List.drop_succ_cons, List.drop_zero, List.zip_cons_cons, List.zip_nil_right, List.zip_nil_left, List.getElem?_cons_zero, List.getElem?_cons_succ, Option.join_some, Option.join_none, Option.map_some, Option.map_none, decide_true, decide_false, decide_not, Bool.not_true, Bool.not_false, Bool.not_not, Bool.true_and, Bool.false_and, Bool.and_true, Bool.and_false, true_and, and_true, false_and, and_false, not_true_eq_false, not_false_eq_true, if_true, if_false, reduceCtorEq, Option.some.injEq, and_self, mb_l, mb_r, Nat.reduceAdd, Nat.reducePow, Nat.reduceSub, Nat.reduceMul, Nat.reduceLT, Nat.reduceGT, Nat.reduceLeDiff, Nat.reduceEqDiff, Nat.reduceBEq, Nat.reduceBNe, Int.reduceAdd, Int.reduceSub, Int.reduceMul, Int.reduceNeg, Int.reduceDiv, Int.reduceMod, Int.reduceLT, Int.reduceLE, Int.reduceGT, Int.reduceGE, Int.reduceEq, Int.reduceNe, Int.reduceToNat, Int.reducePow, Int.reduceAbs, Int.reduceBEq, Int.reduceBNe, reduceIte, Nat.zero_add, Nat.sub_zero, Nat.add_zero, Int.natCast_one, Int.cast_ofNat_Int]
      exact ⟨m0, _, _, rfl, Int.emod_nonneg _ (by omega), Int.emod_lt_of_pos _ m0, rfl, handOk_mk (by omega) (by omega) pl pc⟩
  · simp (disch := first | assumption | omega | (refine okR_int ?_ ?_ <;> omega) | exact OkE.str | (refine okE_of ?_ ?_ <;> (simp only [okE_tup, okE_lst, okEs_c, okEs_nil, okEs_ints, okE_int, okE_bl, okE_non, okE_str, okEs_app, Bool.and_self, Bool.and_true] <;> decide +kernel))) only [↓w_c, ↓w_var, ↓w_mv, ↓wa_nil, ↓wa_vw, ↓wa_ev, ↓wf_nil, ↓wf_l, ↓wf_r, ↓w_ap, ↓wi_nil, ↓wi_r, ↓w_apF, ↓wb_b, ↓w_tb, ↓w_tru, ↓tr1, ↓tr_bl, ↓tr_int, ↓tr_non, ↓tr_lst, ↓tr_tup, ↓w_not, ↓w_and, ↓w_or, ↓w_yes, ↓w_ife, ↓w_bl, ↓w_andV, ↓w_orV, ↓w_notV, ↓wn_i, ↓w_int, ↓w_chain, ↓hk_int, ↓hk_0, ↓hk_2, ↓hk_l, ↓hd_nil, ↓hd_l, ↓hd_r, ↓w_call, ↓w_callio, ↓is_l, ↓is_r, ↓is_s, ↓mk_nil, ↓mk_r, ↓mk_l, ↓ib_n, ↓ib_s, ↓ib_none, ↓wfl_n, ↓wfl_r, ↓w_run, ↓iv_n, ↓iv_z, ↓iv_s, ↓w_next, ↓w_break, ↓w_cont, ↓w_never, ↓wx_n, ↓wx_r, ↓wx_b, ↓wx_c, ↓w_seq, ↓w_set, ↓w_expr, ↓w_ret, ↓w_ifs, ↓wm_nil, ↓wm_c, ↓sm_nil, ↓sm_c, ↓w_par, ↓bt_n, ↓bt_t, ↓bt_l, ↓bts_n, ↓bts_c, ↓w_tgt, ↓w_it, ↓w_itV, ↓w_itF, ↓w_str, ↓w_itP, ↓w_for, ↓w_lc, ↓w_mut, ↓w_store, ↓st1, wp_ok, wp_no, wp_ex, br_t, br_f, br_not, gv_z, gv_s, sv_z, sv_s, nk_int, nk_bl, nk_str, nk_tup, nk_ro, nk_non, nk_lt, nk_lf, nk_f, kk_0, kk_1, wpo_some, wpo_none, wpo_map, wpo_bind, o_add, o_adds, o_addl, o_addt, o_sub, o_mul, o_mull, o_fd, o_md, o_pw, o_ng, o_lt, o_le, o_gt, o_ge, o_abs, o_int, o_intb, o_is_ti, o_is_tb, o_is_ts, o_is_tt, o_is_tl, o_tup, o_lst, o_lenl, o_lent, o_lenr, o_lens, o_ixl, o_ixt, o_ixr, ixL_o, ixL_m1, gRepr_ok, gEq_ok, gNe_ok, eqD_int, eqD_bl, eqD_non, eqD_tup, eqD_lst, eqD_str, eqDs_nil, eqDs_c, eqDs_cn, eqDs_nc, eqDs_ints, o_eqS, o_neS, o_eqI, o_neI, o_eqB, o_neB, o_allB, o_anyB, o_sumI, o_sumM, o_allM, o_anyM, o_max2, o_min2, o_maxI, o_minI, o_tuple, o_tuplet, o_list, o_listt, o_rng1, o_rng2, o_append, o_pop, o_set, wk_l, wk_t, wk_r, wk_s, mu_l, mu_d, d_mut_l, d_mut_i, d_mut_b, d_mut_s, d_mut_t, d_mut_n, ixN_o, List.set_cons_zero, List.set_cons_succ, List.getLast?_concat, o_sumAI, o_sumAM, o_sumAt, o_sumAt2, o_maxA2, o_minA2, o_maxAI, o_minAI, o_maxAt, o_minAt, o_inSS, o_ninSS, o_ixs, o_join, o_isb, o_isn, o_notb, o_notn, in_int, in_non, in_tup, in_lst, in_str, in_bl, o_inI, o_inIt, o_ninI, o_ninIt, o_inS, o_inSt, o_lrg1, o_lrg2, o_trg1, o_popAtI, o_sortI, o_sortIt, o_extend, o_revL, o_zipl, o_zipt, o_rev, o_enum, wfp_nil, wfp_r, wfp_l, fo_n, fo_c, fo_b, fo_r, un_nil, un_c, re_nil, re_c, ov_nil, ov_c, kOk_0, kOk_1, kOk_2, kOk_n, o_minB2, o_maxB2, o_minBI, o_maxBI, o_minBt, o_maxBt, o_sortBI, o_sortBIt, o_dict1i, o_dict1s, o_dicK, o_dicT, nk_dt, nk_df, d_mut_dic, o_is_td, in_dic, o_is_tn, o_enumAl, o_enumAt, o_mulT, o_dT0, o_putT, nk_dT, mut_dT, List.map_cons, List.map_nil, List.length_cons, List.length_nil, List.replicate_succ, List.replicate_zero, List.cons_append, List.nil_append, List.append_nil, List.length_map, List.length_range, List.drop_succ_cons, List.drop_zero, List.zip_cons_cons, List.zip_nil_right, List.zip_nil_left, List.getElem?_cons_zero, List.getElem?_cons_succ, Option.join_some, Option.join_none, Option.map_some, Option.map_none, decide_true, decide_false, decide_not, Bool.not_true, Bool.not_false, Bool.not_not, Bool.true_and, Bool.false_and, Bool.and_true, Bool.and_false, true_and, and_true, false_and, and_false, not_true_eq_false, not_false_eq_true, if_true, if_false, reduceCtorEq, Option.some.injEq, and_self, mb_l, mb_r, Nat.reduceAdd, Nat.reducePow, Nat.reduceSub, Nat.reduceMul, Nat.reduceLT, Nat.reduceGT, Nat.reduceLeDiff, Nat.reduceEqDiff, Nat.reduceBEq, Nat.reduceBNe, Int.reduceAdd, Int.reduceSub, Int.reduceMul, Int.reduceNeg, Int.reduceDiv, Int.reduceMod, Int.reduceLT, Int.reduceLE, Int.reduceGT, Int.reduceGE, Int.reduceEq, Int.reduceNe, Int.reduceToNat, Int.reducePow, Int.reduceAbs, Int.reduceBEq, Int.reduceBNe, reduceIte, Nat.zero_add, Nat.sub_zero, Nat.add_zero, Int.natCast_one, Int.cast_ofNat_Int]
    refine br_cy (by omega) ?_
    simp (disch := first | assumption | omega | (refine okR_int ?_ ?_ <;> omega) | exact OkE.str | (refine okE_of ?_ ?_ <;> (simp only [okE_tup, okE_lst, okEs_c, okEs_nil, okEs_ints, okE_int, okE_bl, okE_non, okE_str, okEs_app, Bool.and_self, Bool.and_true] <;> decide +kernel))) only [↓w_c, ↓w_var, ↓w_mv, ↓wa_nil, ↓wa_vw, ↓wa_ev, ↓wf_nil, ↓wf_l, ↓wf_r, ↓w_ap, ↓wi_nil, ↓wi_r, ↓w_apF, ↓wb_b, ↓w_tb, ↓w_tru, ↓tr1, ↓tr_bl, ↓tr_int, ↓tr_non, ↓tr_lst, ↓tr_tup, ↓w_not, ↓w_and, ↓w_or, ↓w_yes, ↓w_ife, ↓w_bl, ↓w_andV, ↓w_orV, ↓w_notV, ↓wn_i, ↓w_int, ↓w_chain, ↓hk_int, ↓hk_0, ↓hk_2, ↓hk_l, ↓hd_nil, ↓hd_l, ↓hd_r, ↓w_call, ↓w_callio, ↓is_l, ↓is_r, ↓is_s, ↓mk_nil, ↓mk_r, ↓mk_l, ↓ib_n, ↓ib_s, ↓ib_none, ↓wfl_n, ↓wfl_r, ↓w_run, ↓iv_n, ↓iv_z, ↓iv_s, ↓w_next, ↓w_break, ↓w_cont, ↓w_never, ↓wx_n, ↓wx_r, ↓wx_b, ↓wx_c, ↓w_seq, ↓w_set, ↓w_expr, ↓w_ret, ↓w_ifs, ↓wm_nil, ↓wm_c, ↓sm_nil, ↓sm_c, ↓w_par, ↓bt_n, ↓bt_t, ↓bt_l, ↓bts_n, ↓bts_c, ↓w_tgt, ↓w_it, ↓w_itV, ↓w_itF, ↓w_str, ↓w_itP, ↓w_for, ↓w_lc, ↓w_mut, ↓w_store, ↓st1, wp_ok, wp_no, wp_ex, br_t, br_f, br_not, gv_z, gv_s, sv_z, sv_s, nk_int, nk_bl, nk_str, nk_tup, nk_ro, nk_non, nk_lt, nk_lf, nk_f, kk_0, kk_1, wpo_some, wpo_none, wpo_map, wpo_bind, o_add, o_adds, o_addl, o_addt, o_sub, o_mul, o_mull, o_fd, o_md, o_pw, o_ng, o_lt, o_le, o_gt, o_ge, o_abs, o_int, o_intb, o_is_ti, o_is_tb, o_is_ts, o_is_tt, o_is_tl, o_tup, o_lst, o_lenl, o_lent, o_lenr, o_lens, o_ixl, o_ixt, o_ixr, ixL_o, ixL_m1, gRepr_ok, gEq_ok, gNe_ok, eqD_int, eqD_bl, eqD_non, eqD_tup, eqD_lst, eqD_str, eqDs_nil, eqDs_c, eqDs_cn, eqDs_nc, eqDs_ints, o_eqS, o_neS, o_eqI, o_neI, o_eqB, o_neB, o_allB, o_anyB, o_sumI, o_sumM, o_allM, o_anyM, o_max2, o_min2, o_maxI, o_minI, o_tuple, o_tuplet, o_list, o_listt, o_rng1, o_rng2, o_append, o_pop, o_set, wk_l, wk_t, wk_r, wk_s, mu_l, mu_d, d_mut_l, d_mut_i, d_mut_b, d_mut_s, d_mut_t, d_mut_n, ixN_o, List.set_cons_zero, List.set_cons_succ, List.getLast?_concat, o_sumAI, o_sumAM, o_sumAt, o_sumAt2, o_maxA2, o_minA2, o_maxAI, o_minAI, o_maxAt, o_minAt, o_inSS, o_ninSS, o_ixs, o_join, o_isb, o_isn, o_notb, o_notn, in_int, in_non, in_tup, in_lst, in_str, in_bl, o_inI, o_inIt, o_ninI, o_ninIt, o_inS, o_inSt, o_lrg1, o_lrg2, o_trg1, o_popAtI, o_sortI, o_sortIt, o_extend, o_revL, o_zipl, o_zipt, o_rev, o_enum, wfp_nil, wfp_r, wfp_l, fo_n, fo_c, fo_b, fo_r, un_nil, un_c, re_nil, re_c, ov_nil, ov_c, kOk_0, kOk_1, kOk_2, kOk_n, o_minB2, o_maxB2, o_minBI, o_maxBI, o_minBt, o_maxBt, o_sortBI, o_sortBIt, o_dict1i, o_dict1s, o_dicK, o_dicT, nk_dt, nk_df, d_mut_dic, o_is_td, in_dic, o_is_tn, o_enumAl, o_enumAt, o_mulT, o_dT0, o_putT, nk_dT, mut_dT, List.map_cons, List.map_nil, List.length_cons, List.length_nil, List.replicate_succ, List.replicate_zero, List.cons_append, List.nil_append, List.append_nil, List.length_map, List.length_range, List.drop_succ_cons, List.drop_zero, List.zip_cons_cons, List.zip_nil_right, List.zip_nil_left, List.getElem?_cons_zero, List.getElem?_cons_succ, Option.join_some, Option.join_none, Option.map_some, Option.map_none, decide_true, decide_false, decide_not, Bool.not_true, Bool.not_false, Bool.not_not, Bool.true_and, Bool.false_and, Bool.and_true, Bool.and_false, true_and, and_true, false_and, and_false, not_true_eq_false, not_false_eq_true, if_true, if_false, reduceCtorEq, Option.some.injEq, and_self, mb_l, mb_r, Nat.reduceAdd, Nat.reducePow, Nat.reduceSub, Nat.reduceMul, Nat.reduceLT, Nat.reduceGT, Nat.reduceLeDiff, Nat.reduceEqDiff, Nat.reduceBEq, Nat.reduceBNe, Int.reduceAdd, Int.reduceSub, Int.reduceMul, Int.reduceNeg, Int.reduceDiv, Int.reduceMod, Int.reduceLT, Int.reduceLE, Int.reduceGT, Int.reduceGE, Int.reduceEq, Int.reduceNe, Int.reduceToNat, Int.reducePow, Int.reduceAbs, Int.reduceBEq, Int.reduceBNe, reduceIte, Nat.zero_add, Nat.sub_zero, Nat.add_zero, Int.natCast_one, Int.cast_ofNat_Int]
    exact ⟨m0, ⟨m0, m1⟩, _, _, rfl, Int.emod_nonneg _ (by omega), Int.emod_lt_of_pos _ m0, rfl, handOk_mk (by omega) (Int.ediv_nonneg (by omega) (by omega)) pl pc⟩
theorem q_some : SomeOk F__law_some := fun h xs n hn hh m0 m1 => by
  have hke (K : Nat → Prop) : PV.hk (.lst xs) n K = K n := by unfold PV.hk; rw [if_neg hn]
  simp (disch := first | assumption | omega | (refine okR_int ?_ ?_ <;> omega) | exact OkE.str | (refine okE_of ?_ ?_ <;> (simp only [okE_tup, okE_lst, okEs_c, okEs_nil, okEs_ints, okE_int, okE_bl, okE_non, okE_str, okEs_app, Bool.and_self, Bool.and_true] <;> decide +kernel))) only [↓w_c, ↓w_var, ↓w_mv, ↓wa_nil, ↓wa_vw, ↓wa_ev, ↓wf_nil, ↓wf_l, ↓wf_r, ↓w_ap, ↓wi_nil, ↓wi_r, ↓w_apF, ↓wb_b, ↓w_tb, ↓w_tru, ↓tr1, ↓tr_bl, ↓tr_int, ↓tr_non, ↓tr_lst, ↓tr_tup, ↓w_not, ↓w_and, ↓w_or, ↓w_yes, ↓w_ife, ↓w_bl, ↓w_andV, ↓w_orV, ↓w_notV, ↓wn_i, ↓w_int, ↓w_chain, ↓hk_int, ↓hk_0, ↓hk_2, ↓hk_l, ↓hd_nil, ↓hd_l, ↓hd_r, ↓w_call, ↓w_callio, ↓is_l, ↓is_r, ↓is_s, ↓mk_nil, ↓mk_r, ↓mk_l, ↓ib_n, ↓ib_s, ↓ib_none, ↓wfl_n, ↓wfl_r, ↓w_run, ↓iv_n, ↓iv_z, ↓iv_s, ↓w_next, ↓w_break, ↓w_cont, ↓w_never, ↓wx_n, ↓wx_r, ↓wx_b, ↓wx_c, ↓w_seq, ↓w_set, ↓w_expr, ↓w_ret, ↓w_ifs, ↓wm_nil, ↓wm_c, ↓sm_nil, ↓sm_c, ↓w_par, ↓bt_n, ↓bt_t, ↓bt_l, ↓bts_n, ↓bts_c, ↓w_tgt, ↓w_it, ↓w_itV, ↓w_itF, ↓w_str, ↓w_itP, ↓w_for, ↓w_lc, ↓w_mut, ↓w_store, ↓st1, wp_ok, wp_no, wp_ex, br_t, br_f, br_not, gv_z, gv_s, sv_z, sv_s, nk_int, nk_bl, nk_str, nk_tup, nk_ro, nk_non, nk_lt, nk_lf, nk_f, kk_0, kk_1, wpo_some, wpo_none, wpo_map, wpo_bind, o_add, o_adds, o_addl, o_addt, o_sub, o_mul, o_mull, o_fd, o_md, o_pw, o_ng, o_lt, o_le, o_gt, o_ge, o_abs, o_int, o_intb, o_is_ti, o_is_tb, o_is_ts, o_is_tt, o_is_tl, o_tup, o_lst, o_lenl, o_lent, o_lenr, o_lens, o_ixl, o_ixt, o_ixr, ixL_o, ixL_m1, gRepr_ok, gEq_ok, gNe_ok, eqD_int, eqD_bl, eqD_non, eqD_tup, eqD_lst, eqD_str, eqDs_nil, eqDs_c, eqDs_cn, eqDs_nc, eqDs_ints, o_eqS, o_neS, o_eqI, o_neI, o_eqB, o_neB, o_allB, o_anyB, o_sumI, o_sumM, o_allM, o_anyM, o_max2, o_min2, o_maxI, o_minI, o_tuple, o_tuplet, o_list, o_listt, o_rng1, o_rng2, o_append, o_pop, o_set, wk_l, wk_t, wk_r, wk_s, mu_l, mu_d, d_mut_l, d_mut_i, d_mut_b, d_mut_s, d_mut_t, d_mut_n, ixN_o, List.set_cons_zero, List.set_cons_succ, List.getLast?_concat, o_sumAI, o_sumAM, o_sumAt, o_sumAt2, o_maxA2, o_minA2, o_maxAI, o_minAI, o_maxAt, o_minAt, o_inSS, o_ninSS, o_ixs, o_join, o_isb, o_isn, o_notb, o_notn, in_int, in_non, in_tup, in_lst, in_str, in_bl, o_inI, o_inIt, o_ninI, o_ninIt, o_inS, o_inSt, o_lrg1, o_lrg2, o_trg1, o_popAtI, o_sortI, o_sortIt, o_extend, o_revL, o_zipl, o_zipt, o_rev, o_enum, wfp_nil, wfp_r, wfp_l, fo_n, fo_c, fo_b, fo_r, un_nil, un_c, re_nil, re_c, ov_nil, ov_c, kOk_0, kOk_1, kOk_2, kOk_n, o_minB2, o_maxB2, o_minBI, o_maxBI, o_minBt, o_maxBt, o_sortBI, o_sortBIt, o_dict1i, o_dict1s, o_dicK, o_dicT, nk_dt, nk_df, d_mut_dic, o_is_td, in_dic, o_is_tn, o_enumAl, o_enumAt, o_mulT, o_dT0, o_putT, nk_dT, mut_dT, List.map_cons, List.map_nil, List.length_cons, List.length_nil, List.replicate_succ, List.replicate_zero, List.cons_append, List.nil_append, List.append_nil, List.length_map, List.length_range, List.drop_succ_cons, List.drop_zero, List.zip_cons_cons, List.zip_nil_right, List.zip_nil_left, List.getElem?_cons_zero, List.getElem?_cons_succ, Option.join_some, Option.join_none, Option.map_some, Option.map_none, decide_true, decide_false, decide_not, Bool.not_true, Bool.not_false, Bool.not_not, Bool.true_and, Bool.false_and, Bool.and_true, Bool.and_false, true_and, and_true, false_and, and_false, not_true_eq_false, not_false_eq_true, if_true, if_false, reduceCtorEq, Option.some.injEq, and_self, mb_l, mb_r, Nat.reduceAdd, Nat.reducePow, Nat.reduceSub, Nat.reduceMul, Nat.reduceLT, Nat.reduceGT, Nat.reduceLeDiff, Nat.reduceEqDiff, Nat.reduceBEq, Nat.reduceBNe, Int.reduceAdd, Int.reduceSub, Int.reduceMul, Int.reduceNeg, Int.reduceDiv, Int.reduceMod, Int.reduceLT, Int.reduceLE, Int.reduceGT, Int.reduceGE, Int.reduceEq, Int.reduceNe, Int.reduceToNat, Int.reducePow, Int.reduceAbs, Int.reduceBEq, Int.reduceBNe, reduceIte, Nat.zero_add, Nat.sub_zero, Nat.add_zero, Int.natCast_one, Int.cast_ofNat_Int, F__law_some, b__law_some, hke]
  refine q_draw.go hh (by omega) (by omega) fun r h' hr hh' => ?_
  simp (disch := first | assumption | omega | (refine okR_int ?_ ?_ <;> omega) | exact OkE.str | (refine okE_of ?_ ?_ <;> (simp only [okE_tup, okE_lst, okEs_c, okEs_nil, okEs_ints, okE_int, okE_bl, okE_non, okE_str, okEs_app, Bool.and_self, Bool.and_true] <;> decide +kernel))) only [↓w_c, ↓w_var, ↓w_mv, ↓wa_nil, ↓wa_vw, ↓wa_ev, ↓wf_nil, ↓wf_l, ↓wf_r, ↓w_ap, ↓wi_nil, ↓wi_r, ↓w_apF, ↓wb_b, ↓w_tb, ↓w_tru, ↓tr1, ↓tr_bl, ↓tr_int, ↓tr_non, ↓tr_lst, ↓tr_tup, ↓w_not, ↓w_and, ↓w_or, ↓w_yes, ↓w_ife, ↓w_bl, ↓w_andV, ↓w_orV, ↓w_notV, ↓wn_i, ↓w_int, ↓w_chain, ↓hk_int, ↓hk_0, ↓hk_2, ↓hk_l, ↓hd_nil, ↓hd_l, ↓hd_r, ↓w_call, ↓w_callio, ↓is_l, ↓is_r, ↓is_s, ↓mk_nil, ↓mk_r, ↓mk_l, ↓ib_n, ↓ib_s, ↓ib_none, ↓wfl_n, ↓wfl_r, ↓w_run, ↓iv_n, ↓iv_z, ↓iv_s, ↓w_next, ↓w_break, ↓w_cont, ↓w_never, ↓wx_n, ↓wx_r, ↓wx_b, ↓wx_c, ↓w_seq, ↓w_set, ↓w_expr, ↓w_ret, ↓w_ifs, ↓wm_nil, ↓wm_c, ↓sm_nil, ↓sm_c, ↓w_par, ↓bt_n, ↓bt_t, ↓bt_l, ↓bts_n, ↓bts_c, ↓w_tgt, ↓w_it, ↓w_itV, ↓w_itF, ↓w_str, ↓w_itP, ↓w_for, ↓w_lc, ↓w_mut, ↓w_store, ↓st1, wp_ok, wp_no, wp_ex, br_t, br_f, br_not, gv_z, gv_s, sv_z, sv_s, nk_int, nk_bl, nk_str, nk_tup, nk_ro, nk_non, nk_lt, nk_lf, nk_f, kk_0, kk_1, wpo_some, wpo_none, wpo_map, wpo_bind, o_add, o_adds, o_addl, o_addt, o_sub, o_mul, o_mull, o_fd, o_md, o_pw, o_ng, o_lt, o_le, o_gt, o_ge, o_abs, o_int, o_intb, o_is_ti, o_is_tb, o_is_ts, o_is_tt, o_is_tl, o_tup, o_lst, o_lenl, o_lent, o_lenr, o_lens, o_ixl, o_ixt, o_ixr, ixL_o, ixL_m1, gRepr_ok, gEq_ok, gNe_ok, eqD_int, eqD_bl, eqD_non, eqD_tup, eqD_lst, eqD_str, eqDs_nil, eqDs_c, eqDs_cn, eqDs_nc, eqDs_ints, o_eqS, o_neS, o_eqI, o_neI, o_eqB, o_neB, o_allB, o_anyB, o_sumI, o_sumM, o_allM, o_anyM, o_max2, o_min2, o_maxI, o_minI, o_tuple, o_tuplet, o_list, o_listt, o_rng1, o_rng2, o_append, o_pop, o_set, wk_l, wk_t, wk_r, wk_s, mu_l, mu_d, d_mut_l, d_mut_i, d_mut_b, d_mut_s, d_mut_t, d_mut_n, ixN_o, List.set_cons_zero, List.set_cons_succ, List.getLast?_concat, o_sumAI, o_sumAM, o_sumAt, o_sumAt2, o_maxA2, o_minA2, o_maxAI, o_minAI, o_maxAt, o_minAt, o_inSS, o_ninSS, o_ixs, o_join, o_isb, o_isn, o_notb, o_notn, in_int, in_non, in_tup, in_lst, in_str, in_bl, o_inI, o_inIt, o_ninI, o_ninIt, o_inS, o_inSt, o_lrg1, o_lrg2, o_trg1, o_popAtI, o_sortI, o_sortIt, o_extend, o_revL, o_zipl, o_zipt, o_rev, o_enum, wfp_nil, wfp_r, wfp_l, fo_n, fo_c, fo_b, fo_r, un_nil, un_c, re_nil, re_c, ov_nil, ov_c, kOk_0, kOk_1, kOk_2, kOk_n, o_minB2, o_maxB2, o_minBI, o_maxBI, o_minBt, o_maxBt, o_sortBI, o_sortBIt, o_dict1i, o_dict1s, o_dicK, o_dicT, nk_dt, nk_df, d_mut_dic, o_is_td, in_dic, o_is_tn, o_enumAl, o_enumAt, o_mulT, o_dT0, o_putT, nk_dT, mut_dT, List.map_cons, List.map_nil, List.length_cons, List.length_nil, List.replicate_succ, List.replicate_zero, List.cons_append, List.nil_append, List.append_nil, List.length_map, List.length_range, List.drop_succ_cons, List.drop_zero, List.zip_cons_cons, List.zip_nil_right, List.zip_nil_left, List.getElem?_cons_zero, List.getElem?_cons_succ, Option.join_some, Option.join_none, Option.map_some, Option.map_none, decide_true, decide_false, decide_not, Bool.not_true, Bool.not_false, Bool.not_not, Bool.true_and, Bool.false_and, Bool.and_true, Bool.and_false, true_and, and_true, false_and, and_false, not_true_eq_false, not_false_eq_true, if_true, if_false, reduceCtorEq, Option.some.injEq, and_self, mb_l, mb_r, Nat.reduceAdd, Nat.reducePow, Nat.reduceSub, Nat.reduceMul, Nat.reduceLT, Nat.reduceGT, Nat.reduceLeDiff, Nat.reduceEqDiff, Nat.reduceBEq, Nat.reduceBNe, Int.reduceAdd, Int.reduceSub, Int.reduceMul, Int.reduceNeg, Int.reduceDiv, Int.reduceMod, Int.reduceLT, Int.reduceLE, Int.reduceGT, Int.reduceGE, Int.reduceEq, Int.reduceNe, Int.reduceToNat, Int.reducePow, Int.reduceAbs, Int.reduceBEq, Int.reduceBNe, reduceIte, Nat.zero_add, Nat.sub_zero, Nat.add_zero, Int.natCast_one, Int.cast_ofNat_Int]
  rw [ixL_nn hr.1 hr.2, List.getElem?_eq_getElem (by omega)]
  simp (disch := first | assumption | omega | (refine okR_int ?_ ?_ <;> omega) | exact OkE.str | (refine okE_of ?_ ?_ <;> (simp only [okE_tup, okE_lst, okEs_c, okEs_nil, okEs_ints, okE_int, okE_bl, okE_non, okE_str, okEs_app, Bool.and_self, Bool.and_true] <;> decide +kernel))) only [↓w_c, ↓w_var, ↓w_mv, ↓wa_nil, ↓wa_vw, ↓wa_ev, ↓wf_nil, ↓wf_l, ↓wf_r, ↓w_ap, ↓wi_nil, ↓wi_r, ↓w_apF, ↓wb_b, ↓w_tb, ↓w_tru, ↓tr1, ↓tr_bl, ↓tr_int, ↓tr_non, ↓tr_lst, ↓tr_tup, ↓w_not, ↓w_and, ↓w_or, ↓w_yes, ↓w_ife, ↓w_bl, ↓w_andV, ↓w_orV, ↓w_notV, ↓wn_i, ↓w_int, ↓w_chain, ↓hk_int, ↓hk_0, ↓hk_2, ↓hk_l, ↓hd_nil, ↓hd_l, ↓hd_r, ↓w_call, ↓w_callio, ↓is_l, ↓is_r, ↓is_s, ↓mk_nil, ↓mk_r, ↓mk_l, ↓ib_n, ↓ib_s, ↓ib_none, ↓wfl_n, ↓wfl_r, ↓w_run, ↓iv_n, ↓iv_z, ↓iv_s, ↓w_next, ↓w_break, ↓w_cont, ↓w_never, ↓wx_n, ↓wx_r, ↓wx_b, ↓wx_c, ↓w_seq, ↓w_set, ↓w_expr, ↓w_ret, ↓w_ifs, ↓wm_nil, ↓wm_c, ↓sm_nil, ↓sm_c, ↓w_par, ↓bt_n, ↓bt_t, ↓bt_l, ↓bts_n, ↓bts_c, ↓w_tgt, ↓w_it, ↓w_itV, ↓w_itF, ↓w_str, ↓w_itP, ↓w_for, ↓w_lc, ↓w_mut, ↓w_store, ↓st1, wp_ok, wp_no, wp_ex, br_t, br_f, br_not, gv_z, gv_s, sv_z, sv_s, nk_int, nk_bl, nk_str, nk_tup, nk_ro, nk_non, nk_lt, nk_lf, nk_f, kk_0, kk_1, wpo_some, wpo_none, wpo_map, wpo_bind, o_add, o_adds, o_addl, o_addt, o_sub, o_mul, o_mull, o_fd, o_md, o_pw, o_ng, o_lt, o_le, o_gt, o_ge, o_abs, o_int, o_intb, o_is_ti, o_is_tb, o_is_ts, o_is_tt, o_is_tl, o_tup, o_lst, o_lenl, o_lent, o_lenr, o_lens, o_ixl, o_ixt, o_ixr, ixL_o, ixL_m1, gRepr_ok, gEq_ok, gNe_ok, eqD_int, eqD_bl, eqD_non, eqD_tup, eqD_lst, eqD_str, eqDs_nil, eqDs_c, eqDs_cn, eqDs_nc, eqDs_ints, o_eqS, o_neS, o_eqI, o_neI, o_eqB, o_neB, o_allB, o_anyB, o_sumI, o_sumM, o_allM, o_anyM, o_max2, o_min2, o_maxI, o_minI, o_tuple, o_tuplet, o_list, o_listt, o_rng1, o_rng2, o_append, o_pop, o_set, wk_l, wk_t, wk_r, wk_s, mu_l, mu_d, d_mut_l, d_mut_i, d_mut_b, d_mut_s, d_mut_t, d_mut_n, ixN_o, List.set_cons_zero, List.set_cons_succ, List.getLast?_concat, o_sumAI, o_sumAM, o_sumAt, o_sumAt2, o_maxA2, o_minA2, o_maxAI, o_minAI, o_maxAt, o_minAt, o_inSS, o_ninSS, o_ixs, o_join, o_isb, o_isn, o_notb, o_notn, in_int, in_non, in_tup, in_lst, in_str, in_bl, o_inI, o_inIt, o_ninI, o_ninIt, o_inS, o_inSt, o_lrg1, o_lrg2, o_trg1, o_popAtI, o_sortI, o_sortIt, o_extend, o_revL, o_zipl, o_zipt, o_rev, o_enum, wfp_nil, wfp_r, wfp_l, fo_n, fo_c, fo_b, fo_r, un_nil, un_c, re_nil, re_c, ov_nil, ov_c, kOk_0, kOk_1, kOk_2, kOk_n, o_minB2, o_maxB2, o_minBI, o_maxBI, o_minBt, o_maxBt, o_sortBI, o_sortBIt, o_dict1i, o_dict1s, o_dicK, o_dicT, nk_dt, nk_df, d_mut_dic, o_is_td, in_dic, o_is_tn, o_enumAl, o_enumAt, o_mulT, o_dT0, o_putT, nk_dT, mut_dT, List.map_cons, List.map_nil, List.length_cons, List.length_nil, List.replicate_succ, List.replicate_zero, List.cons_append, List.nil_append, List.append_nil, List.length_map, List.length_range, List.drop_succ_cons, List.drop_zero, List.zip_cons_cons, List.zip_nil_right, List.zip_nil_left, List.getElem?_cons_zero, List.getElem?_cons_succ, Option.join_some, Option.join_none, Option.map_some, Option.map_none, decide_true, decide_false, decide_not, Bool.not_true, Bool.not_false, Bool.not_not, Bool.true_and, Bool.false_and, Bool.and_true, Bool.and_false, true_and, and_true, false_and, and_false, not_true_eq_false, not_false_eq_true, if_true, if_false, reduceCtorEq, Option.some.injEq, and_self, mb_l, mb_r, Nat.reduceAdd, Nat.reducePow, Nat.reduceSub, Nat.reduceMul, Nat.reduceLT, Nat.reduceGT, Nat.reduceLeDiff, Nat.reduceEqDiff, Nat.reduceBEq, Nat.reduceBNe, Int.reduceAdd, Int.reduceSub, Int.reduceMul, Int.reduceNeg, Int.reduceDiv, Int.reduceMod, Int.reduceLT, Int.reduceLE, Int.reduceGT, Int.reduceGE, Int.reduceEq, Int.reduceNe, Int.reduceToNat, Int.reducePow, Int.reduceAbs, Int.reduceBEq, Int.reduceBNe, reduceIte, Nat.zero_add, Nat.sub_zero, Nat.add_zero, Int.natCast_one, Int.cast_ofNat_Int]
  exact ⟨r.toNat, h', by omega, List.getElem?_eq_getElem (by omega), rfl, hh'⟩
theorem q_is_integer {i : Int} : F_is_integer [(.int i, 0)] = .ok (.bl true) none := wp_of (by simp (disch := first | assumption | omega | (refine okR_int ?_ ?_ <;> omega) | exact OkE.str | (refine okE_of ?_ ?_ <;> (simp only [okE_tup, okE_lst, okEs_c, okEs_nil, okEs_ints, okE_int, okE_bl, okE_non, okE_str, okEs_app, Bool.and_self, Bool.and_true] <;> decide +kernel))) only [↓w_c, ↓w_var, ↓w_mv, ↓wa_nil, ↓wa_vw, ↓wa_ev, ↓wf_nil, ↓wf_l, ↓wf_r, ↓w_ap, ↓wi_nil, ↓wi_r, ↓w_apF, ↓wb_b, ↓w_tb, ↓w_tru, ↓tr1, ↓tr_bl, ↓tr_int, ↓tr_non, ↓tr_lst, ↓tr_tup, ↓w_not, ↓w_and, ↓w_or, ↓w_yes, ↓w_ife, ↓w_bl, ↓w_andV, ↓w_orV, ↓w_notV, ↓wn_i, ↓w_int, ↓w_chain, ↓hk_int, ↓hk_0, ↓hk_2, ↓hk_l, ↓hd_nil, ↓hd_l, ↓hd_r, ↓w_call, ↓w_callio, ↓is_l, ↓is_r, ↓is_s, ↓mk_nil, ↓mk_r, ↓mk_l, ↓ib_n, ↓ib_s, ↓ib_none, ↓wfl_n, ↓wfl_r, ↓w_run, ↓iv_n, ↓iv_z, ↓iv_s, ↓w_next, ↓w_break, ↓w_cont, ↓w_never, ↓wx_n, ↓wx_r, ↓wx_b, ↓wx_c, ↓w_seq, ↓w_set, ↓w_expr, ↓w_ret, ↓w_ifs, ↓wm_nil, ↓wm_c, ↓sm_nil, ↓sm_c, ↓w_par, ↓bt_n, ↓bt_t, ↓bt_l, ↓bts_n, ↓bts_c, ↓w_tgt, ↓w_it, ↓w_itV, ↓w_itF, ↓w_str, ↓w_itP, ↓w_for, ↓w_lc, ↓w_mut, ↓w_store, ↓st1, wp_ok, wp_no, wp_ex, br_t, br_f, br_not, gv_z, gv_s, sv_z, sv_s, nk_int, nk_bl, nk_str, nk_tup, nk_ro, nk_non, nk_lt, nk_lf, nk_f, kk_0, kk_1, wpo_some, wpo_none, wpo_map, wpo_bind, o_add, o_adds, o_addl, o_addt, o_sub, o_mul, o_mull, o_fd, o_md, o_pw, o_ng, o_lt, o_le, o_gt, o_ge, o_abs, o_int, o_intb, o_is_ti, o_is_tb, o_is_ts, o_is_tt, o_is_tl, o_tup, o_lst, o_lenl, o_lent, o_lenr, o_lens, o_ixl, o_ixt, o_ixr, ixL_o, ixL_m1, gRepr_ok, gEq_ok, gNe_ok, eqD_int, eqD_bl, eqD_non, eqD_tup, eqD_lst, eqD_str, eqDs_nil, eqDs_c, eqDs_cn, eqDs_nc, eqDs_ints, o_eqS, o_neS, o_eqI, o_neI, o_eqB, o_neB, o_allB, o_anyB, o_sumI, o_sumM, o_allM, o_anyM, o_max2, o_min2, o_maxI, o_minI, o_tuple, o_tuplet, o_list, o_listt, o_rng1, o_rng2, o_append, o_pop, o_set, wk_l, wk_t, wk_r, wk_s, mu_l, mu_d, d_mut_l, d_mut_i, d_mut_b, d_mut_s, d_mut_t, d_mut_n, ixN_o, List.set_cons_zero, List.set_cons_succ, List.getLast?_concat, o_sumAI, o_sumAM, o_sumAt, o_sumAt2, o_maxA2, o_minA2, o_maxAI, o_minAI, o_maxAt, o_minAt, o_inSS, o_ninSS, o_ixs, o_join, o_isb, o_isn, o_notb, o_notn, in_int, in_non, in_tup, in_lst, in_str, in_bl, o_inI, o_inIt, o_ninI, o_ninIt, o_inS, o_inSt, o_lrg1, o_lrg2, o_trg1, o_popAtI, o_sortI, o_sortIt, o_extend, o_revL, o_zipl, o_zipt, o_rev, o_enum, wfp_nil, wfp_r, wfp_l, fo_n, fo_c, fo_b, fo_r, un_nil, un_c, re_nil, re_c, ov_nil, ov_c, kOk_0, kOk_1, kOk_2, kOk_n, o_minB2, o_maxB2, o_minBI, o_maxBI, o_minBt, o_maxBt, o_sortBI, o_sortBIt, o_dict1i, o_dict1s, o_dicK, o_dicT, nk_dt, nk_df, d_mut_dic, o_is_td, in_dic, o_is_tn, o_enumAl, o_enumAt, o_mulT, o_dT0, o_putT, nk_dT, mut_dT, List.map_cons, List.map_nil, List.length_cons, List.length_nil, List.replicate_succ, List.replicate_zero, List.cons_append, List.nil_append, List.append_nil, List.length_map, List.length_range, List.drop_succ_cons, List.drop_zero, List.zip_cons_cons, List.zip_nil_right, List.zip_nil_left, List.getElem?_cons_zero, List.getElem?_cons_succ, Option.join_some, Option.join_none, Option.map_some, Option.map_none, decide_true, decide_false, decide_not, Bool.not_true, Bool.not_false, Bool.not_not, Bool.true_and, Bool.false_and, Bool.and_true, Bool.and_false, true_and, and_true, false_and, and_false, not_true_eq_false, not_false_eq_true, if_true, if_false, reduceCtorEq, Option.some.injEq, and_self, mb_l, mb_r, Nat.reduceAdd, Nat.reducePow, Nat.reduceSub, Nat.reduceMul, Nat.reduceLT, Nat.reduceGT, Nat.reduceLeDiff, Nat.reduceEqDiff, Nat.reduceBEq, Nat.reduceBNe, Int.reduceAdd, Int.reduceSub, Int.reduceMul, Int.reduceNeg, Int.reduceDiv, Int.reduceMod, Int.reduceLT, Int.reduceLE, Int.reduceGT, Int.reduceGE, Int.reduceEq, Int.reduceNe, Int.reduceToNat, Int.reducePow, Int.reduceAbs, Int.reduceBEq, Int.reduceBNe, reduceIte, Nat.zero_add, Nat.sub_zero, Nat.add_zero, Int.natCast_one, Int.cast_ofNat_Int, F_is_integer, b_is_integer])
theorem q_is_within {i l h : Int} : F_is_within [(.int i, 0), (.int l, 0), (.int h, 0)] = .ok (.bl (decide (l ≤ i ∧ i ≤ h))) none := wp_of (by
  simp (disch := first | assumption | omega | (refine okR_int ?_ ?_ <;> omega) | exact OkE.str | (refine okE_of ?_ ?_ <;> (simp only [okE_tup, okE_lst, okEs_c, okEs_nil, okEs_ints, okE_int, okE_bl, okE_non, okE_str, okEs_app, Bool.and_self, Bool.and_true] <;> decide +kernel))) only [↓w_c, ↓w_var, ↓w_mv, ↓wa_nil, ↓wa_vw, ↓wa_ev, ↓wf_nil, ↓wf_l, ↓wf_r, ↓w_ap, ↓wi_nil, ↓wi_r, ↓w_apF, ↓wb_b, ↓w_tb, ↓w_tru, ↓tr1, ↓tr_bl, ↓tr_int, ↓tr_non, ↓tr_lst, ↓tr_tup, ↓w_not, ↓w_and, ↓w_or, ↓w_yes, ↓w_ife, ↓w_bl, ↓w_andV, ↓w_orV, ↓w_notV, ↓wn_i, ↓w_int, ↓w_chain, ↓hk_int, ↓hk_0, ↓hk_2, ↓hk_l, ↓hd_nil, ↓hd_l, ↓hd_r, ↓w_call, ↓w_callio, ↓is_l, ↓is_r, ↓is_s, ↓mk_nil, ↓mk_r, ↓mk_l, ↓ib_n, ↓ib_s, ↓ib_none, ↓wfl_n, ↓wfl_r, ↓w_run, ↓iv_n, ↓iv_z, ↓iv_s, ↓w_next, ↓w_break, ↓w_cont, ↓w_never, ↓wx_n, ↓wx_r, ↓wx_b, ↓wx_c, ↓w_seq, ↓w_set, ↓w_expr, ↓w_ret, ↓w_ifs, ↓wm_nil, ↓wm_c, ↓sm_nil, ↓sm_c, ↓w_par, ↓bt_n, ↓bt_t, ↓bt_l, ↓bts_n, ↓bts_c, ↓w_tgt, ↓w_it, ↓w_itV, ↓w_itF, ↓w_str, ↓w_itP, ↓w_for, ↓w_lc, ↓w_mut, ↓w_store, ↓st1, wp_ok, wp_no, wp_ex, br_t, br_f, br_not, gv_z, gv_s, sv_z, sv_s, nk_int, nk_bl, nk_str, nk_tup, nk_ro, nk_non, nk_lt, nk_lf, nk_f, kk_0, kk_1, wpo_some, wpo_none, wpo_map, wpo_bind, o_add, o_adds, o_addl, o_addt, o_sub, o_mul, o_mull, o_fd, o_md, o_pw, o_ng, o_lt, o_le, o_gt, o_ge, o_abs, o_int, o_intb, o_is_ti, o_is_tb, o_is_ts, o_is_tt, o_is_tl, o_tup, o_lst, o_lenl, o_lent, o_lenr, o_lens, o_ixl, o_ixt, o_ixr, ixL_o, ixL_m1, gRepr_ok, gEq_ok, gNe_ok, eqD_int, eqD_bl, eqD_non, eqD_tup, eqD_lst, eqD_str, eqDs_nil, eqDs_c, eqDs_cn, eqDs_nc, eqDs_ints, o_eqS, o_neS, o_eqI, o_neI, o_eqB, o_neB, o_allB, o_anyB, o_sumI, o_sumM, o_allM, o_anyM, o_max2, o_min2, o_maxI, o_minI, o_tuple, o_tuplet, o_list, o_listt, o_rng1, o_rng2, o_append, o_pop, o_set, wk_l, wk_t, wk_r, wk_s, mu_l, mu_d, d_mut_l, d_mut_i, d_mut_b, d_mut_s, d_mut_t, d_mut_n, ixN_o, List.set_cons_zero, List.set_cons_succ, List.getLast?_concat, o_sumAI, o_sumAM, o_sumAt, o_sumAt2, o_maxA2, o_minA2, o_maxAI, o_minAI, o_maxAt, o_minAt, o_inSS, o_ninSS, o_ixs, o_join, o_isb, o_isn, o_notb, o_notn, in_int, in_non, in_tup, in_lst, in_str, in_bl, o_inI, o_inIt, o_ninI, o_ninIt, o_inS, o_inSt, o_lrg1, o_lrg2, o_trg1, o_popAtI, o_sortI, o_sortIt, o_extend, o_revL, o_zipl, o_zipt, o_rev, o_enum, wfp_nil, wfp_r, wfp_l, fo_n, fo_c, fo_b, fo_r, un_nil, un_c, re_nil, re_c, ov_nil, ov_c, kOk_0, kOk_1, kOk_2, kOk_n, o_minB2, o_maxB2, o_minBI, o_maxBI, o_minBt, o_maxBt, o_sortBI, o_sortBIt, o_dict1i, o_dict1s, o_dicK, o_dicT, nk_dt, nk_df, d_mut_dic, o_is_td, in_dic, o_is_tn, o_enumAl, o_enumAt, o_mulT, o_dT0, o_putT, nk_dT, mut_dT, List.map_cons, List.map_nil, List.length_cons, List.length_nil, List.replicate_succ, List.replicate_zero, List.cons_append, List.nil_append, List.append_nil, List.length_map, List.length_range, List.drop_succ_cons, List.drop_zero, List.zip_cons_cons, List.zip_nil_right, List.zip_nil_left, List.getElem?_cons_zero, List.getElem?_cons_succ, Option.join_some, Option.join_none, Option.map_some, Option.map_none, decide_true, decide_false, decide_not, Bool.not_true, Bool.not_false, Bool.not_not, Bool.true_and, Bool.false_and, Bool.and_true, Bool.and_false, true_and, and_true, false_and, and_false, not_true_eq_false, not_false_eq_true, if_true, if_false, reduceCtorEq, Option.some.injEq, and_self, mb_l, mb_r, Nat.reduceAdd, Nat.reducePow, Nat.reduceSub, Nat.reduceMul, Nat.reduceLT, Nat.reduceGT, Nat.reduceLeDiff, Nat.reduceEqDiff, Nat.reduceBEq, Nat.reduceBNe, Int.reduceAdd, Int.reduceSub, Int.reduceMul, Int.reduceNeg, Int.reduceDiv, Int.reduceMod, Int.reduceLT, Int.reduceLE, Int.reduceGT, Int.reduceGE, Int.reduceEq, Int.reduceNe, Int.reduceToNat, Int.reducePow, Int.reduceAbs, Int.reduceBEq, Int.reduceBNe, reduceIte, Nat.zero_add, Nat.sub_zero, Nat.add_zero, Int.natCast_one, Int.cast_ofNat_Int, F_is_within, b_is_within, q_is_integer]
  refine br_ci (fun h => ?_) (fun h => ?_)
  · simp (disch := first | assumption | omega | (refine okR_int ?_ ?_ <;> omega) | exact OkE.str | (refine okE_of ?_ ?_ <;> (simp only [okE_tup, okE_lst, okEs_c, okEs_nil, okEs_ints, okE_int, okE_bl, okE_non, okE_str, okEs_app, Bool.and_self, Bool.and_true] <;> decide +kernel))) only [↓w_c, ↓w_var, ↓w_mv, ↓wa_nil, ↓wa_vw, ↓wa_ev, ↓wf_nil, ↓wf_l, ↓wf_r, ↓w_ap, ↓wi_nil, ↓wi_r, ↓w_apF, ↓wb_b, ↓w_tb, ↓w_tru, ↓tr1, ↓tr_bl, ↓tr_int, ↓tr_non, ↓tr_lst, ↓tr_tup, ↓w_not, ↓w_and, ↓w_or, ↓w_yes, ↓w_ife, ↓w_bl, ↓w_andV, ↓w_orV, ↓w_notV, ↓wn_i, ↓w_int, ↓w_chain, ↓hk_int, ↓hk_0, ↓hk_2, ↓hk_l, ↓hd_nil, ↓hd_l, ↓hd_r, ↓w_call, ↓w_callio, ↓is_l, ↓is_r, ↓is_s, ↓mk_nil, ↓mk_r, ↓mk_l, ↓ib_n, ↓ib_s, ↓ib_none, ↓wfl_n, ↓wfl_r, ↓w_run, ↓iv_n, ↓iv_z, ↓iv_s, ↓w_next, ↓w_break, ↓w_cont, ↓w_never, ↓wx_n, ↓wx_r, ↓wx_b, ↓wx_c, ↓w_seq, ↓w_set, ↓w_expr, ↓w_ret, ↓w_ifs, ↓wm_nil, ↓wm_c, ↓sm_nil, ↓sm_c, ↓w_par, ↓bt_n, ↓bt_t, ↓bt_l, ↓bts_n, ↓bts_c, ↓w_tgt, ↓w_it, ↓w_itV, ↓w_itF, ↓w_str, ↓w_itP, ↓w_for, ↓w_lc, ↓w_mut, ↓w_store, ↓st1, wp_ok, wp_no, wp_ex, br_t, br_f, br_not, gv_z, gv_s, sv_z, sv_s, nk_int, nk_bl, nk_str, nk_tup, nk_ro, nk_non, nk_lt, nk_lf, nk_f, kk_0, kk_1, wpo_some, wpo_none, wpo_map, wpo_bind, o_add, o_adds, o_addl, o_addt, o_sub, o_mul, o_mull, o_fd, o_md, o_pw, o_ng, o_lt, o_le, o_gt, o_ge, o_abs, o_int, o_intb, o_is_ti, o_is_tb, o_is_ts, o_is_tt, o_is_tl, o_tup, o_lst, o_lenl, o_lent, o_lenr, o_lens, o_ixl, o_ixt, o_ixr, ixL_o, ixL_m1, gRepr_ok, gEq_ok, gNe_ok, eqD_int, eqD_bl, eqD_non, eqD_tup, eqD_lst, eqD_str, eqDs_nil, eqDs_c, eqDs_cn, eqDs_nc, eqDs_ints, o_eqS, o_neS, o_eqI, o_neI, o_eqB, o_neB, o_allB, o_anyB, o_sumI, o_sumM, o_allM, o_anyM, o_max2, o_min2, o_maxI, o_minI, o_tuple, o_tuplet, o_list, o_listt, o_rng1, o_rng2, o_append, o_pop, o_set, wk_l, wk_t, wk_r, wk_s, mu_l, mu_d, d_mut_l, d_mut_i, d_mut_b, d_mut_s, d_mut_t, d_mut_n, ixN_o, List.set_cons_zero, List.set_cons_succ, List.getLast?_concat, o_sumAI, o_sumAM, o_sumAt, o_sumAt2, o_maxA2, o_minA2, o_maxAI, o_minAI, o_maxAt, o_minAt, o_inSS, o_ninSS, o_ixs, o_join, o_isb, o_isn, o_notb, o_notn, in_int, in_non, in_tup, in_lst, in_str, in_bl, o_inI, o_inIt, o_ninI, o_ninIt, o_inS, o_inSt, o_lrg1, o_lrg2, o_trg1, o_popAtI, o_sortI, o_sortIt, o_extend, o_revL, o_zipl, o_zipt, o_rev, o_enum, wfp_nil, wfp_r, wfp_l, fo_n, fo_c, fo_b, fo_r, un_nil, un_c, re_nil, re_c, ov_nil, ov_c, kOk_0, kOk_1, kOk_2, kOk_n, o_minB2, o_maxB2, o_minBI, o_maxBI, o_minBt, o_maxBt, o_sortBI, o_sortBIt, o_dict1i, o_dict1s, o_dicK, o_dicT, nk_dt, nk_df, d_mut_dic, o_is_td, in_dic, o_is_tn, o_enumAl, o_enumAt, o_mulT, o_dT0, o_putT, nk_dT, mut_dT, List.map_cons, List.map_nil, List.length_cons, List.length_nil, List.replicate_succ, List.replicate_zero, List.cons_append, List.nil_append, List.append_nil, List.length_map, List.length_range, List.drop_succ_cons, List.drop_zero, List.zip_cons_cons, List.zip_nil_right, List.zip_nil_left, List.getElem?_cons_zero, List.getElem?_cons_succ, Option.join_some, Option.join_none, Option.map_some, Option.map_none, decide_true, decide_false, decide_not, Bool.not_true, Bool.not_false, Bool.not_not, Bool.true_and, Bool.false_and, Bool.and_true, Bool.and_false, true_and, and_true, false_and, and_false, not_true_eq_false, not_false_eq_true, if_true, if_false, reduceCtorEq, Option.some.injEq, and_self, mb_l, mb_r, Nat.reduceAdd, Nat.reducePow, Nat.reduceSub, Nat.reduceMul, Nat.reduceLT, Nat.reduceGT, Nat.reduceLeDiff, Nat.reduceEqDiff, Nat.reduceBEq, Nat.reduceBNe, Int.reduceAdd, Int.reduceSub, Int.reduceMul, Int.reduceNeg, Int.reduceDiv, Int.reduceMod, Int.reduceLT, Int.reduceLE, Int.reduceGT, Int.reduceGE, Int.reduceEq, Int.reduceNe, Int.reduceToNat, Int.reducePow, Int.reduceAbs, Int.reduceBEq, Int.reduceBNe, reduceIte, Nat.zero_add, Nat.sub_zero, Nat.add_zero, Int.natCast_one, Int.cast_ofNat_Int]; simp [h]
  · simp (disch := first | assumption | omega | (refine okR_int ?_ ?_ <;> omega) | exact OkE.str | (refine okE_of ?_ ?_ <;> (simp only [okE_tup, okE_lst, okEs_c, okEs_nil, okEs_ints, okE_int, okE_bl, okE_non, okE_str, okEs_app, Bool.and_self, Bool.and_true] <;> decide +kernel))) only [↓w_c, ↓w_var, ↓w_mv, ↓wa_nil, ↓wa_vw, ↓wa_ev, ↓wf_nil, ↓wf_l, ↓wf_r, ↓w_ap, ↓wi_nil, ↓wi_r, ↓w_apF, ↓wb_b, ↓w_tb, ↓w_tru, ↓tr1, ↓tr_bl, ↓tr_int, ↓tr_non, ↓tr_lst, ↓tr_tup, ↓w_not, ↓w_and, ↓w_or, ↓w_yes, ↓w_ife, ↓w_bl, ↓w_andV, ↓w_orV, ↓w_notV, ↓wn_i, ↓w_int, ↓w_chain, ↓hk_int, ↓hk_0, ↓hk_2, ↓hk_l, ↓hd_nil, ↓hd_l, ↓hd_r, ↓w_call, ↓w_callio, ↓is_l, ↓is_r, ↓is_s, ↓mk_nil, ↓mk_r, ↓mk_l, ↓ib_n, ↓ib_s, ↓ib_none, ↓wfl_n, ↓wfl_r, ↓w_run, ↓iv_n, ↓iv_z, ↓iv_s, ↓w_next, ↓w_break, ↓w_cont, ↓w_never, ↓wx_n, ↓wx_r, ↓wx_b, ↓wx_c, ↓w_seq, ↓w_set, ↓w_expr, ↓w_ret, ↓w_ifs, ↓wm_nil, ↓wm_c, ↓sm_nil, ↓sm_c, ↓w_par, ↓bt_n, ↓bt_t, ↓bt_l, ↓bts_n, ↓bts_c, ↓w_tgt, ↓w_it, ↓w_itV, ↓w_itF, ↓w_str, ↓w_itP, ↓w_for, ↓w_lc, ↓w_mut, ↓w_store, ↓st1, wp_ok, wp_no, wp_ex, br_t, br_f, br_not, gv_z, gv_s, sv_z, sv_s, nk_int, nk_bl, nk_str, nk_tup, nk_ro, nk_non, nk_lt, nk_lf, nk_f, kk_0, kk_1, wpo_some, wpo_none, wpo_map, wpo_bind, o_add, o_adds, o_addl, o_addt, o_sub, o_mul, o_mull, o_fd, o_md, o_pw, o_ng, o_lt, o_le, o_gt, o_ge, o_abs, o_int, o_intb, o_is_ti, o_is_tb, o_is_ts, o_is_tt, o_is_tl, o_tup, o_lst, o_lenl, o_lent, o_lenr, o_lens, o_ixl, o_ixt, o_ixr, ixL_o, ixL_m1, gRepr_ok, gEq_ok, gNe_ok, eqD_int, eqD_bl, eqD_non, eqD_tup, eqD_lst, eqD_str, eqDs_nil, eqDs_c, eqDs_cn, eqDs_nc, eqDs_ints, o_eqS, o_neS, o_eqI, o_neI, o_eqB, o_neB, o_allB, o_anyB, o_sumI, o_sumM, o_allM, o_anyM, o_max2, o_min2, o_maxI, o_minI, o_tuple, o_tuplet, o_list, o_listt, o_rng1, o_rng2, o_append, o_pop, o_set, wk_l, wk_t, wk_r, wk_s, mu_l, mu_d, d_mut_l, d_mut_i, d_mut_b, d_mut_s, d_mut_t, d_mut_n, ixN_o, List.set_cons_zero, List.set_cons_succ, List.getLast?_concat, o_sumAI, o_sumAM, o_sumAt, o_sumAt2, o_maxA2, o_minA2, o_maxAI, o_minAI, o_maxAt, o_minAt, o_inSS, o_ninSS, o_ixs, o_join, o_isb, o_isn, o_notb, o_notn, in_int, in_non, in_tup, in_lst, in_str, in_bl, o_inI, o_inIt, o_ninI, o_ninIt, o_inS, o_inSt, o_lrg1, o_lrg2, o_trg1, o_popAtI, o_sortI, o_sortIt, o_extend, o_revL, o_zipl, o_zipt, o_rev, o_enum, wfp_nil, wfp_r, wfp_l, fo_n, fo_c, fo_b, fo_r, un_nil, un_c, re_nil, re_c, ov_nil, ov_c, kOk_0, kOk_1, kOk_2, kOk_n, o_minB2, o_maxB2, o_minBI, o_maxBI, o_minBt, o_maxBt, o_sortBI, o_sortBIt, o_dict1i, o_dict1s, o_dicK, o_dicT, nk_dt, nk_df, d_mut_dic, o_is_td, in_dic, o_is_tn, o_enumAl, o_enumAt, o_mulT, o_dT0, o_putT, nk_dT, mut_dT, List.map_cons, List.map_nil, List.length_cons, List.length_nil, List.replicate_succ, List.replicate_zero, List.cons_append, List.nil_append, List.append_nil, List.length_map, List.length_range, List.drop_succ_cons, List.drop_zero, List.zip_cons_cons, List.zip_nil_right, List.zip_nil_left, List.getElem?_cons_zero, List.getElem?_cons_succ, Option.join_some, Option.join_none, Option.map_some, Option.map_none, decide_true, decide_false, decide_not, Bool.not_true, Bool.not_false, Bool.not_not, Bool.true_and, Bool.false_and, Bool.and_true, Bool.and_false, true_and, and_true, false_and, and_false, not_true_eq_false, not_false_eq_true, if_true, if_false, reduceCtorEq, Option.some.injEq, and_self, mb_l, mb_r, Nat.reduceAdd, Nat.reducePow, Nat.reduceSub, Nat.reduceMul, Nat.reduceLT, Nat.reduceGT, Nat.reduceLeDiff, Nat.reduceEqDiff, Nat.reduceBEq, Nat.reduceBNe, Int.reduceAdd, Int.reduceSub, Int.reduceMul, Int.reduceNeg, Int.reduceDiv, Int.reduceMod, Int.reduceLT, Int.reduceLE, Int.reduceGT, Int.reduceGE, Int.reduceEq, Int.reduceNe, Int.reduceToNat, Int.reducePow, Int.reduceAbs, Int.reduceBEq, Int.reduceBNe, reduceIte, Nat.zero_add, Nat.sub_zero, Nat.add_zero, Int.natCast_one, Int.cast_ofNat_Int]; simp; omega)
theorem q_is_tuple {xs : List D} {l h : Int} : F_is_tuple [(.tup xs, 0), (.int l, 0), (.int h, 0)] = .ok (.bl (decide (l ≤ xs.length ∧ (xs.length : Int) ≤ h))) none := wp_of (by
  simp (disch := first | assumption | omega | (refine okR_int ?_ ?_ <;> omega) | exact OkE.str | (refine okE_of ?_ ?_ <;> (simp only [okE_tup, okE_lst, okEs_c, okEs_nil, okEs_ints, okE_int, okE_bl, okE_non, okE_str, okEs_app, Bool.and_self, Bool.and_true] <;> decide +kernel))) only [↓w_c, ↓w_var, ↓w_mv, ↓wa_nil, ↓wa_vw, ↓wa_ev, ↓wf_nil, ↓wf_l, ↓wf_r, ↓w_ap, ↓wi_nil, ↓wi_r, ↓w_apF, ↓wb_b, ↓w_tb, ↓w_tru, ↓tr1, ↓tr_bl, ↓tr_int, ↓tr_non, ↓tr_lst, ↓tr_tup, ↓w_not, ↓w_and, ↓w_or, ↓w_yes, ↓w_ife, ↓w_bl, ↓w_andV, ↓w_orV, ↓w_notV, ↓wn_i, ↓w_int, ↓w_chain, ↓hk_int, ↓hk_0, ↓hk_2, ↓hk_l, ↓hd_nil, ↓hd_l, ↓hd_r, ↓w_call, ↓w_callio, ↓is_l, ↓is_r, ↓is_s, ↓mk_nil, ↓mk_r, ↓mk_l, ↓ib_n, ↓ib_s, ↓ib_none, ↓wfl_n, ↓wfl_r, ↓w_run, ↓iv_n, ↓iv_z, ↓iv_s, ↓w_next, ↓w_break, ↓w_cont, ↓w_never, ↓wx_n, ↓wx_r, ↓wx_b, ↓wx_c, ↓w_seq, ↓w_set, ↓w_expr, ↓w_ret, ↓w_ifs, ↓wm_nil, ↓wm_c, ↓sm_nil, ↓sm_c, ↓w_par, ↓bt_n, ↓bt_t, ↓bt_l, ↓bts_n, ↓bts_c, ↓w_tgt, ↓w_it, ↓w_itV, ↓w_itF, ↓w_str, ↓w_itP, ↓w_for, ↓w_lc, ↓w_mut, ↓w_store, ↓st1, wp_ok, wp_no, wp_ex, br_t, br_f, br_not, gv_z, gv_s, sv_z, sv_s, nk_int, nk_bl, nk_str, nk_tup, nk_ro, nk_non, nk_lt, nk_lf, nk_f, kk_0, kk_1, wpo_some, wpo_none, wpo_map, wpo_bind, o_add, o_adds, o_addl, o_addt, o_sub, o_mul, o_mull, o_fd, o_md, o_pw, o_ng, o_lt, o_le, o_gt, o_ge, o_abs, o_int, o_intb, o_is_ti, o_is_tb, o_is_ts, o_is_tt, o_is_tl, o_tup, o_lst, o_lenl, o_lent, o_lenr, o_lens, o_ixl, o_ixt, o_ixr, ixL_o, ixL_m1, gRepr_ok, gEq_ok, gNe_ok, eqD_int, eqD_bl, eqD_non, eqD_tup, eqD_lst, eqD_str, eqDs_nil, eqDs_c, eqDs_cn, eqDs_nc, eqDs_ints, o_eqS, o_neS, o_eqI, o_neI, o_eqB, o_neB, o_allB, o_anyB, o_sumI, o_sumM, o_allM, o_anyM, o_max2, o_min2, o_maxI, o_minI, o_tuple, o_tuplet, o_list, o_listt, o_rng1, o_rng2, o_append, o_pop, o_set, wk_l, wk_t, wk_r, wk_s, mu_l, mu_d, d_mut_l, d_mut_i, d_mut_b, d_mut_s, d_mut_t, d_mut_n, ixN_o, List.set_cons_zero, List.set_cons_succ, List.getLast?_concat, o_sumAI, o_sumAM, o_sumAt, o_sumAt2, o_maxA2, o_minA2, o_maxAI, o_minAI, o_maxAt, o_minAt, o_inSS, o_ninSS, o_ixs, o_join, o_isb, o_isn, o_notb, o_notn, in_int, in_non, in_tup, in_lst, in_str, in_bl, o_inI, o_inIt, o_ninI, o_ninIt, o_inS, o_inSt, o_lrg1, o_lrg2, o_trg1, o_popAtI, o_sortI, o_sortIt, o_extend, o_revL, o_zipl, o_zipt, o_rev, o_enum, wfp_nil, wfp_r, wfp_l, fo_n, fo_c, fo_b, fo_r, un_nil, un_c, re_nil, re_c, ov_nil, ov_c, kOk_0, kOk_1, kOk_2, kOk_n, o_minB2, o_maxB2, o_minBI, o_maxBI, o_minBt, o_maxBt, o_sortBI, o_sortBIt, o_dict1i, o_dict1s, o_dicK, o_dicT, nk_dt, nk_df, d_mut_dic, o_is_td, in_dic, o_is_tn, o_enumAl, o_enumAt, o_mulT, o_dT0, o_putT, nk_dT, mut_dT, List.map_cons, List.map_nil, List.length_cons, List.length_nil, List.replicate_succ, List.replicate_zero, List.cons_append, List.nil_append, List.append_nil, List.length_map, List.length_range, List.drop_succ_cons, List.drop_zero, List.zip_cons_cons, List.zip_nil_right, List.zip_nil_left, List.getElem?_cons_zero, List.getElem?_cons_succ, Option.join_some, Option.join_none, Option.map_some, Option.map_none, decide_true, decide_false, decide_not, Bool.not_true, Bool.not_false, Bool.not_not, Bool.true_and, Bool.false_and, Bool.and_true, Bool.and_false, true_and, and_true, false_and, and_false, not_true_eq_false, not_false_eq_true, if_true, if_false, reduceCtorEq, Option.some.injEq, and_self, mb_l, mb_r, Nat.reduceAdd, Nat.reducePow, Nat.reduceSub, Nat.reduceMul, Nat.reduceLT, Nat.reduceGT, Nat.reduceLeDiff, Nat.reduceEqDiff, Nat.reduceBEq, Nat.reduceBNe, Int.reduceAdd, Int.reduceSub, Int.reduceMul, Int.reduceNeg, Int.reduceDiv, Int.reduceMod, Int.reduceLT, Int.reduceLE, Int.reduceGT, Int.reduceGE, Int.reduceEq, Int.reduceNe, Int.reduceToNat, Int.reducePow, Int.reduceAbs, Int.reduceBEq, Int.reduceBNe, reduceIte, Nat.zero_add, Nat.sub_zero, Nat.add_zero, Int.natCast_one, Int.cast_ofNat_Int, F_is_tuple, b_is_tuple]
  refine br_ci (fun h => ?_) (fun h => ?_)
  · simp (disch := first | assumption | omega | (refine okR_int ?_ ?_ <;> omega) | exact OkE.str | (refine okE_of ?_ ?_ <;> (simp only [okE_tup, okE_lst, okEs_c, okEs_nil, okEs_ints, okE_int, okE_bl, okE_non, okE_str, okEs_app, Bool.and_self, Bool.and_true] <;> decide +kernel))) only [↓w_c, ↓w_var, ↓w_mv, ↓wa_nil, ↓wa_vw, ↓wa_ev, ↓wf_nil, ↓wf_l, ↓wf_r, ↓w_ap, ↓wi_nil, ↓wi_r, ↓w_apF, ↓wb_b, ↓w_tb, ↓w_tru, ↓tr1, ↓tr_bl, ↓tr_int, ↓tr_non, ↓tr_lst, ↓tr_tup, ↓w_not, ↓w_and, ↓w_or, ↓w_yes, ↓w_ife, ↓w_bl, ↓w_andV, ↓w_orV, ↓w_notV, ↓wn_i, ↓w_int, ↓w_chain, ↓hk_int, ↓hk_0, ↓hk_2, ↓hk_l, ↓hd_nil, ↓hd_l, ↓hd_r, ↓w_call, ↓w_callio, ↓is_l, ↓is_r, ↓is_s, ↓mk_nil, ↓mk_r, ↓mk_l, ↓ib_n, ↓ib_s, ↓ib_none, ↓wfl_n, ↓wfl_r, ↓w_run, ↓iv_n, ↓iv_z, ↓iv_s, ↓w_next, ↓w_break, ↓w_cont, ↓w_never, ↓wx_n, ↓wx_r, ↓wx_b, ↓wx_c, ↓w_seq, ↓w_set, ↓w_expr, ↓w_ret, ↓w_ifs, ↓wm_nil, ↓wm_c, ↓sm_nil, ↓sm_c, ↓w_par, ↓bt_n, ↓bt_t, ↓bt_l, ↓bts_n, ↓bts_c, ↓w_tgt, ↓w_it, ↓w_itV, ↓w_itF, ↓w_str, ↓w_itP, ↓w_for, ↓w_lc, ↓w_mut, ↓w_store, ↓st1, wp_ok, wp_no, wp_ex, br_t, br_f, br_not, gv_z, gv_s, sv_z, sv_s, nk_int, nk_bl, nk_str, nk_tup, nk_ro, nk_non, nk_lt, nk_lf, nk_f, kk_0, kk_1, wpo_some, wpo_none, wpo_map, wpo_bind, o_add, o_adds, o_addl, o_addt, o_sub, o_mul, o_mull, o_fd, o_md, o_pw, o_ng, o_lt, o_le, o_gt, o_ge, o_abs, o_int, o_intb, o_is_ti, o_is_tb, o_is_ts, o_is_tt, o_is_tl, o_tup, o_lst, o_lenl, o_lent, o_lenr, o_lens, o_ixl, o_ixt, o_ixr, ixL_o, ixL_m1, gRepr_ok, gEq_ok, gNe_ok, eqD_int, eqD_bl, eqD_non, eqD_tup, eqD_lst, eqD_str, eqDs_nil, eqDs_c, eqDs_cn, eqDs_nc, eqDs_ints, o_eqS, o_neS, o_eqI, o_neI, o_eqB, o_neB, o_allB, o_anyB, o_sumI, o_sumM, o_allM, o_anyM, o_max2, o_min2, o_maxI, o_minI, o_tuple, o_tuplet, o_list, o_listt, o_rng1, o_rng2, o_append, o_pop, o_set, wk_l, wk_t, wk_r, wk_s, mu_l, mu_d, d_mut_l, d_mut_i, d_mut_b, d_mut_s, d_mut_t, d_mut_n, ixN_o, List.set_cons_zero, List.set_cons_succ, List.getLast?_concat, o_sumAI, o_sumAM, o_sumAt, o_sumAt2, o_maxA2, o_minA2, o_maxAI, o_minAI, o_maxAt, o_minAt, o_inSS, o_ninSS, o_ixs, o_join, o_isb, o_isn, o_notb, o_notn, in_int, in_non, in_tup, in_lst, in_str, in_bl, o_inI, o_inIt, o_ninI, o_ninIt, o_inS, o_inSt, o_lrg1, o_lrg2, o_trg1, o_popAtI, o_sortI, o_sortIt, o_extend, o_revL, o_zipl, o_zipt, o_rev, o_enum, wfp_nil, wfp_r, wfp_l, fo_n, fo_c, fo_b, fo_r, un_nil, un_c, re_nil, re_c, ov_nil, ov_c, kOk_0, kOk_1, kOk_2, kOk_n, o_minB2, o_maxB2, o_minBI, o_maxBI, o_minBt, o_maxBt, o_sortBI, o_sortBIt, o_dict1i, o_dict1s, o_dicK, o_dicT, nk_dt, nk_df, d_mut_dic, o_is_td, in_dic, o_is_tn, o_enumAl, o_enumAt, o_mulT, o_dT0, o_putT, nk_dT, mut_dT, List.map_cons, List.map_nil, List.length_cons, List.length_nil, List.replicate_succ, List.replicate_zero, List.cons_append, List.nil_append, List.append_nil, List.length_map, List.length_range, List.drop_succ_cons, List.drop_zero, List.zip_cons_cons, List.zip_nil_right, List.zip_nil_left, List.getElem?_cons_zero, List.getElem?_cons_succ, Option.join_some, Option.join_none, Option.map_some, Option.map_none, decide_true, decide_false, decide_not, Bool.not_true, Bool.not_false, Bool.not_not, Bool.true_and, Bool.false_and, Bool.and_true, Bool.and_false, true_and, and_true, false_and, and_false, not_true_eq_false, not_false_eq_true, if_true, if_false, reduceCtorEq, Option.some.injEq, and_self, mb_l, mb_r, Nat.reduceAdd, Nat.reducePow, Nat.reduceSub, Nat.reduceMul, Nat.reduceLT, Nat.reduceGT, Nat.reduceLeDiff, Nat.reduceEqDiff, Nat.reduceBEq, Nat.reduceBNe, Int.reduceAdd, Int.reduceSub, Int.reduceMul, Int.reduceNeg, Int.reduceDiv, Int.reduceMod, Int.reduceLT, Int.reduceLE, Int.reduceGT, Int.reduceGE, Int.reduceEq, Int.reduceNe, Int.reduceToNat, Int.reducePow, Int.reduceAbs, Int.reduceBEq, Int.reduceBNe, reduceIte, Nat.zero_add, Nat.sub_zero, Nat.add_zero, Int.natCast_one, Int.cast_ofNat_Int]; simp [h]
  · simp (disch := first | assumption | omega | (refine okR_int ?_ ?_ <;> omega) | exact OkE.str | (refine okE_of ?_ ?_ <;> (simp only [okE_tup, okE_lst, okEs_c, okEs_nil, okEs_ints, okE_int, okE_bl, okE_non, okE_str, okEs_app, Bool.and_self, Bool.and_true] <;> decide +kernel))) only [↓w_c, ↓w_var, ↓w_mv, ↓wa_nil, ↓wa_vw, ↓wa_ev, ↓wf_nil, ↓wf_l, ↓wf_r, ↓w_ap, ↓wi_nil, ↓wi_r, ↓w_apF, ↓wb_b, ↓w_tb, ↓w_tru, ↓tr1, ↓tr_bl, ↓tr_int, ↓tr_non, ↓tr_lst, ↓tr_tup, ↓w_not, ↓w_and, ↓w_or, ↓w_yes, ↓w_ife, ↓w_bl, ↓w_andV, ↓w_orV, ↓w_notV, ↓wn_i, ↓w_int, ↓w_chain, ↓hk_int, ↓hk_0, ↓hk_2, ↓hk_l, ↓hd_nil, ↓hd_l, ↓hd_r, ↓w_call, ↓w_callio, ↓is_l, ↓is_r, ↓is_s, ↓mk_nil, ↓mk_r, ↓mk_l, ↓ib_n, ↓ib_s, ↓ib_none, ↓wfl_n, ↓wfl_r, ↓w_run, ↓iv_n, ↓iv_z, ↓iv_s, ↓w_next, ↓w_break, ↓w_cont, ↓w_never, ↓wx_n, ↓wx_r, ↓wx_b, ↓wx_c, ↓w_seq, ↓w_set, ↓w_expr, ↓w_ret, ↓w_ifs, ↓wm_nil, ↓wm_c, ↓sm_nil, ↓sm_c, ↓w_par, ↓bt_n, ↓bt_t, ↓bt_l, ↓bts_n, ↓bts_c, ↓w_tgt, ↓w_it, ↓w_itV, ↓w_itF, ↓w_str, ↓w_itP, ↓w_for, ↓w_lc, ↓w_mut, ↓w_store, ↓st1, wp_ok, wp_no, wp_ex, br_t, br_f, br_not, gv_z, gv_s, sv_z, sv_s, nk_int, nk_bl, nk_str, nk_tup, nk_ro, nk_non, nk_lt, nk_lf, nk_f, kk_0, kk_1, wpo_some, wpo_none, wpo_map, wpo_bind, o_add, o_adds, o_addl, o_addt, o_sub, o_mul, o_mull, o_fd, o_md, o_pw, o_ng, o_lt, o_le, o_gt, o_ge, o_abs, o_int, o_intb, o_is_ti, o_is_tb, o_is_ts, o_is_tt, o_is_tl, o_tup, o_lst, o_lenl, o_lent, o_lenr, o_lens, o_ixl, o_ixt, o_ixr, ixL_o, ixL_m1, gRepr_ok, gEq_ok, gNe_ok, eqD_int, eqD_bl, eqD_non, eqD_tup, eqD_lst, eqD_str, eqDs_nil, eqDs_c, eqDs_cn, eqDs_nc, eqDs_ints, o_eqS, o_neS, o_eqI, o_neI, o_eqB, o_neB, o_allB, o_anyB, o_sumI, o_sumM, o_allM, o_anyM, o_max2, o_min2, o_maxI, o_minI, o_tuple, o_tuplet, o_list, o_listt, o_rng1, o_rng2, o_append, o_pop, o_set, wk_l, wk_t, wk_r, wk_s, mu_l, mu_d, d_mut_l, d_mut_i, d_mut_b, d_mut_s, d_mut_t, d_mut_n, ixN_o, List.set_cons_zero, List.set_cons_succ, List.getLast?_concat, o_sumAI, o_sumAM, o_sumAt, o_sumAt2, o_maxA2, o_minA2, o_maxAI, o_minAI, o_maxAt, o_minAt, o_inSS, o_ninSS, o_ixs, o_join, o_isb, o_isn, o_notb, o_notn, in_int, in_non, in_tup, in_lst, in_str, in_bl, o_inI, o_inIt, o_ninI, o_ninIt, o_inS, o_inSt, o_lrg1, o_lrg2, o_trg1, o_popAtI, o_sortI, o_sortIt, o_extend, o_revL, o_zipl, o_zipt, o_rev, o_enum, wfp_nil, wfp_r, wfp_l, fo_n, fo_c, fo_b, fo_r, un_nil, un_c, re_nil, re_c, ov_nil, ov_c, kOk_0, kOk_1, kOk_2, kOk_n, o_minB2, o_maxB2, o_minBI, o_maxBI, o_minBt, o_maxBt, o_sortBI, o_sortBIt, o_dict1i, o_dict1s, o_dicK, o_dicT, nk_dt, nk_df, d_mut_dic, o_is_td, in_dic, o_is_tn, o_enumAl, o_enumAt, o_mulT, o_dT0, o_putT, nk_dT, mut_dT, List.map_cons, List.map_nil, List.length_cons, List.length_nil, List.replicate_succ, List.replicate_zero, List.cons_append, List.nil_append, List.append_nil, List.length_map, List.length_range, List.drop_succ_cons, List.drop_zero, List.zip_cons_cons, List.zip_nil_right, List.zip_nil_left, List.getElem?_cons_zero, List.getElem?_cons_succ, Option.join_some, Option.join_none, Option.map_some, Option.map_none, decide_true, decide_false, decide_not, Bool.not_true, Bool.not_false, Bool.not_not, Bool.true_and, Bool.false_and, Bool.and_true, Bool.and_false, true_and, and_true, false_and, and_false, not_true_eq_false, not_false_eq_true, if_true, if_false, reduceCtorEq, Option.some.injEq, and_self, mb_l, mb_r, Nat.reduceAdd, Nat.reducePow, Nat.reduceSub, Nat.reduceMul, Nat.reduceLT, Nat.reduceGT, Nat.reduceLeDiff, Nat.reduceEqDiff, Nat.reduceBEq, Nat.reduceBNe, Int.reduceAdd, Int.reduceSub, Int.reduceMul, Int.reduceNeg, Int.reduceDiv, Int.reduceMod, Int.reduceLT, Int.reduceLE, Int.reduceGT, Int.reduceGE, Int.reduceEq, Int.reduceNe, Int.reduceToNat, Int.reducePow, Int.reduceAbs, Int.reduceBEq, Int.reduceBNe, reduceIte, Nat.zero_add, Nat.sub_zero, Nat.add_zero, Int.natCast_one, Int.cast_ofNat_Int]; simp; omega)
/-- one long of a box -/
abbrev Ok (w : Int) : Prop := 1 ≤ w ∧ w ≤ 60
def bx (w h : Int) : D := .tup [.int w, .int h]
theorem t2 : (2 : Int) ≤ 2 ∧ (2 : Int) ≤ 2 := by omega
theorem all2 {a b : Bool} : gAll [.lst [.bl a, .bl b]] = some (.bl (a && b)) := by cases a <;> cases b <;> rfl
theorem q_box {w h : Int} (h1 : Ok w) (h2 : Ok h) : F_check_box [(.tup [.int w, .int h], 0)] = .ok .non none := wp_of (by
  have x2 := t2
  simp (disch := first | assumption | omega | (refine okR_int ?_ ?_ <;> omega) | exact OkE.str | (refine okE_of ?_ ?_ <;> (simp only [okE_tup, okE_lst, okEs_c, okEs_nil, okEs_ints, okE_int, okE_bl, okE_non, okE_str, okEs_app, Bool.and_self, Bool.and_true] <;> decide +kernel))) only [↓w_c, ↓w_var, ↓w_mv, ↓wa_nil, ↓wa_vw, ↓wa_ev, ↓wf_nil, ↓wf_l, ↓wf_r, ↓w_ap, ↓wi_nil, ↓wi_r, ↓w_apF, ↓wb_b, ↓w_tb, ↓w_tru, ↓tr1, ↓tr_bl, ↓tr_int, ↓tr_non, ↓tr_lst, ↓tr_tup, ↓w_not, ↓w_and, ↓w_or, ↓w_yes, ↓w_ife, ↓w_bl, ↓w_andV, ↓w_orV, ↓w_notV, ↓wn_i, ↓w_int, ↓w_chain, ↓hk_int, ↓hk_0, ↓hk_2, ↓hk_l, ↓hd_nil, ↓hd_l, ↓hd_r, ↓w_call, ↓w_callio, ↓is_l, ↓is_r, ↓is_s, ↓mk_nil, ↓mk_r, ↓mk_l, ↓ib_n, ↓ib_s, ↓ib_none, ↓wfl_n, ↓wfl_r, ↓w_run, ↓iv_n, ↓iv_z, ↓iv_s, ↓w_next, ↓w_break, ↓w_cont, ↓w_never, ↓wx_n, ↓wx_r, ↓wx_b, ↓wx_c, ↓w_seq, ↓w_set, ↓w_expr, ↓w_ret, ↓w_ifs, ↓wm_nil, ↓wm_c, ↓sm_nil, ↓sm_c, ↓w_par, ↓bt_n, ↓bt_t, ↓bt_l, ↓bts_n, ↓bts_c, ↓w_tgt, ↓w_it, ↓w_itV, ↓w_itF, ↓w_str, ↓w_itP, ↓w_for, ↓w_lc, ↓w_mut, ↓w_store, ↓st1, wp_ok, wp_no, wp_ex, br_t, br_f, br_not, gv_z, gv_s, sv_z, sv_s, nk_int, nk_bl, nk_str, nk_tup, nk_ro, nk_non, nk_lt, nk_lf, nk_f, kk_0, kk_1, wpo_some, wpo_none, wpo_map, wpo_bind, o_add, o_adds, o_addl, o_addt, o_sub, o_mul, o_mull, o_fd, o_md, o_pw, o_ng, o_lt, o_le, o_gt, o_ge, o_abs, o_int, o_intb, o_is_ti, o_is_tb, o_is_ts, o_is_tt, o_is_tl, o_tup, o_lst, o_lenl, o_lent, o_lenr, o_lens, o_ixl, o_ixt, o_ixr, ixL_o, ixL_m1, gRepr_ok, gEq_ok, gNe_ok, eqD_int, eqD_bl, eqD_non, eqD_tup, eqD_lst, eqD_str, eqDs_nil, eqDs_c, eqDs_cn, eqDs_nc, eqDs_ints, o_eqS, o_neS, o_eqI, o_neI, o_eqB, o_neB, o_allB, o_anyB, o_sumI, o_sumM, o_allM, o_anyM, o_max2, o_min2, o_maxI, o_minI, o_tuple, o_tuplet, o_list, o_listt, o_rng1, o_rng2, o_append, o_pop, o_set, wk_l, wk_t, wk_r, wk_s, mu_l, mu_d, d_mut_l, d_mut_i, d_mut_b, d_mut_s, d_mut_t, d_mut_n, ixN_o, List.set_cons_zero, List.set_cons_succ, List.getLast?_concat, o_sumAI, o_sumAM, o_sumAt, o_sumAt2, o_maxA2, o_minA2, o_maxAI, o_minAI, o_maxAt, o_minAt, o_inSS, o_ninSS, o_ixs, o_join, o_isb, o_isn, o_notb, o_notn, in_int, in_non, in_tup, in_lst, in_str, in_bl, o_inI, o_inIt, o_ninI, o_ninIt, o_inS, o_inSt, o_lrg1, o_lrg2, o_trg1, o_popAtI, o_sortI, o_sortIt, o_extend, o_revL, o_zipl, o_zipt, o_rev, o_enum, wfp_nil, wfp_r, wfp_l, fo_n, fo_c, fo_b, fo_r, un_nil, un_c, re_nil, re_c, ov_nil, ov_c, kOk_0, kOk_1, kOk_2, kOk_n, o_minB2, o_maxB2, o_minBI, o_maxBI, o_minBt, o_maxBt, o_sortBI, o_sortBIt, o_dict1i, o_dict1s, o_dicK, o_dicT, nk_dt, nk_df, d_mut_dic, o_is_td, in_dic, o_is_tn, o_enumAl, o_enumAt, o_mulT, o_dT0, o_putT, nk_dT, mut_dT, List.map_cons, List.map_nil, List.length_cons, List.length_nil, List.replicate_succ, List.replicate_zero, List.cons_append, List.nil_append, List.append_nil, List.length_map, List.length_range, List.drop_succ_cons, List.drop_zero, List.zip_cons_cons, List.zip_nil_right, List.zip_nil_left, List.getElem?_cons_zero, List.getElem?_cons_succ, Option.join_some, Option.join_none, Option.map_some, Option.map_none, decide_true, decide_false, decide_not, Bool.not_true, Bool.not_false, Bool.not_not, Bool.true_and, Bool.false_and, Bool.and_true, Bool.and_false, true_and, and_true, false_and, and_false, not_true_eq_false, not_false_eq_true, if_true, if_false, reduceCtorEq, Option.some.injEq, and_self, mb_l, mb_r, Nat.reduceAdd, Nat.reducePow, Nat.reduceSub, Nat.reduceMul, Nat.reduceLT, Nat.reduceGT, Nat.reduceLeDiff, Nat.reduceEqDiff, Nat.reduceBEq, Nat.reduceBNe, Int.reduceAdd, Int.reduceSub, Int.reduceMul, Int.reduceNeg, Int.reduceDiv, Int.reduceMod, Int.reduceLT, Int.reduceLE, Int.reduceGT, Int.reduceGE, Int.reduceEq, Int.reduceNe, Int.reduceToNat, Int.reducePow, Int.reduceAbs, Int.reduceBEq, Int.reduceBNe, reduceIte, Nat.zero_add, Nat.sub_zero, Nat.add_zero, Int.natCast_one, Int.cast_ofNat_Int, F_check_box, b_check_box, q_is_tuple, x2]
  refine wp_lcM (f := D.int) (xs := [w, h]) (g := fun i => .bl (decide (1 ≤ i ∧ i ≤ 60))) ?_ ?_
  · intro i _
    simp (disch := first | assumption | omega | (refine okR_int ?_ ?_ <;> omega) | exact OkE.str | (refine okE_of ?_ ?_ <;> (simp only [okE_tup, okE_lst, okEs_c, okEs_nil, okEs_ints, okE_int, okE_bl, okE_non, okE_str, okEs_app, Bool.and_self, Bool.and_true] <;> decide +kernel))) only [↓w_c, ↓w_var, ↓w_mv, ↓wa_nil, ↓wa_vw, ↓wa_ev, ↓wf_nil, ↓wf_l, ↓wf_r, ↓w_ap, ↓wi_nil, ↓wi_r, ↓w_apF, ↓wb_b, ↓w_tb, ↓w_tru, ↓tr1, ↓tr_bl, ↓tr_int, ↓tr_non, ↓tr_lst, ↓tr_tup, ↓w_not, ↓w_and, ↓w_or, ↓w_yes, ↓w_ife, ↓w_bl, ↓w_andV, ↓w_orV, ↓w_notV, ↓wn_i, ↓w_int, ↓w_chain, ↓hk_int, ↓hk_0, ↓hk_2, ↓hk_l, ↓hd_nil, ↓hd_l, ↓hd_r, ↓w_call, ↓w_callio, ↓is_l, ↓is_r, ↓is_s, ↓mk_nil, ↓mk_r, ↓mk_l, ↓ib_n, ↓ib_s, ↓ib_none, ↓wfl_n, ↓wfl_r, ↓w_run, ↓iv_n, ↓iv_z, ↓iv_s, ↓w_next, ↓w_break, ↓w_cont, ↓w_never, ↓wx_n, ↓wx_r, ↓wx_b, ↓wx_c, ↓w_seq, ↓w_set, ↓w_expr, ↓w_ret, ↓w_ifs, ↓wm_nil, ↓wm_c, ↓sm_nil, ↓sm_c, ↓w_par, ↓bt_n, ↓bt_t, ↓bt_l, ↓bts_n, ↓bts_c, ↓w_tgt, ↓w_it, ↓w_itV, ↓w_itF, ↓w_str, ↓w_itP, ↓w_for, ↓w_lc, ↓w_mut, ↓w_store, ↓st1, wp_ok, wp_no, wp_ex, br_t, br_f, br_not, gv_z, gv_s, sv_z, sv_s, nk_int, nk_bl, nk_str, nk_tup, nk_ro, nk_non, nk_lt, nk_lf, nk_f, kk_0, kk_1, wpo_some, wpo_none, wpo_map, wpo_bind, o_add, o_adds, o_addl, o_addt, o_sub, o_mul, o_mull, o_fd, o_md, o_pw, o_ng, o_lt, o_le, o_gt, o_ge, o_abs, o_int, o_intb, o_is_ti, o_is_tb, o_is_ts, o_is_tt, o_is_tl, o_tup, o_lst, o_lenl, o_lent, o_lenr, o_lens, o_ixl, o_ixt, o_ixr, ixL_o, ixL_m1, gRepr_ok, gEq_ok, gNe_ok, eqD_int, eqD_bl, eqD_non, eqD_tup, eqD_lst, eqD_str, eqDs_nil, eqDs_c, eqDs_cn, eqDs_nc, eqDs_ints, o_eqS, o_neS, o_eqI, o_neI, o_eqB, o_neB, o_allB, o_anyB, o_sumI, o_sumM, o_allM, o_anyM, o_max2, o_min2, o_maxI, o_minI, o_tuple, o_tuplet, o_list, o_listt, o_rng1, o_rng2, o_append, o_pop, o_set, wk_l, wk_t, wk_r, wk_s, mu_l, mu_d, d_mut_l, d_mut_i, d_mut_b, d_mut_s, d_mut_t, d_mut_n, ixN_o, List.set_cons_zero, List.set_cons_succ, List.getLast?_concat, o_sumAI, o_sumAM, o_sumAt, o_sumAt2, o_maxA2, o_minA2, o_maxAI, o_minAI, o_maxAt, o_minAt, o_inSS, o_ninSS, o_ixs, o_join, o_isb, o_isn, o_notb, o_notn, in_int, in_non, in_tup, in_lst, in_str, in_bl, o_inI, o_inIt, o_ninI, o_ninIt, o_inS, o_inSt, o_lrg1, o_lrg2, o_trg1, o_popAtI, o_sortI, o_sortIt, o_extend, o_revL, o_zipl, o_zipt, o_rev, o_enum, wfp_nil, wfp_r, wfp_l, fo_n, fo_c, fo_b, fo_r, un_nil, un_c, re_nil, re_c, ov_nil, ov_c, kOk_0, kOk_1, kOk_2, kOk_n, o_minB2, o_maxB2, o_minBI, o_maxBI, o_minBt, o_maxBt, o_sortBI, o_sortBIt, o_dict1i, o_dict1s, o_dicK, o_dicT, nk_dt, nk_df, d_mut_dic, o_is_td, in_dic, o_is_tn, o_enumAl, o_enumAt, o_mulT, o_dT0, o_putT, nk_dT, mut_dT, List.map_cons, List.map_nil, List.length_cons, List.length_nil, List.replicate_succ, List.replicate_zero, List.cons_append, List.nil_append, List.append_nil, List.length_map, List.length_range, List.drop_succ_cons, List.drop_zero, List.zip_cons_cons, List.zip_nil_right, List.zip_nil_left, List.getElem?_cons_zero, List.getElem?_cons_succ, Option.join_some, Option.join_none, Option.map_some, Option.map_none, decide_true, decide_false, decide_not, Bool.not_true, Bool.not_false, Bool.not_not, Bool.true_and, Bool.false_and, Bool.and_true, Bool.and_false, true_and, and_true, false_and, and_false, not_true_eq_false, not_false_eq_true, if_true, if_false, reduceCtorEq, Option.some.injEq, and_self, mb_l, mb_r, Nat.reduceAdd, Nat.reducePow, Nat.reduceSub, Nat.reduceMul, Nat.reduceLT, Nat.reduceGT, Nat.reduceLeDiff, Nat.reduceEqDiff, Nat.reduceBEq, Nat.reduceBNe, Int.reduceAdd, Int.reduceSub, Int.reduceMul, Int.reduceNeg, Int.reduceDiv, Int.reduceMod, Int.reduceLT, Int.reduceLE, Int.reduceGT, Int.reduceGE, Int.reduceEq, Int.reduceNe, Int.reduceToNat, Int.reducePow, Int.reduceAbs, Int.reduceBEq, Int.reduceBNe, reduceIte, Nat.zero_add, Nat.sub_zero, Nat.add_zero, Int.natCast_one, Int.cast_ofNat_Int, q_is_within]
  simp (disch := first | assumption | omega | (refine okR_int ?_ ?_ <;> omega) | exact OkE.str | (refine okE_of ?_ ?_ <;> (simp only [okE_tup, okE_lst, okEs_c, okEs_nil, okEs_ints, okE_int, okE_bl, okE_non, okE_str, okEs_app, Bool.and_self, Bool.and_true] <;> decide +kernel))) only [↓w_c, ↓w_var, ↓w_mv, ↓wa_nil, ↓wa_vw, ↓wa_ev, ↓wf_nil, ↓wf_l, ↓wf_r, ↓w_ap, ↓wi_nil, ↓wi_r, ↓w_apF, ↓wb_b, ↓w_tb, ↓w_tru, ↓tr1, ↓tr_bl, ↓tr_int, ↓tr_non, ↓tr_lst, ↓tr_tup, ↓w_not, ↓w_and, ↓w_or, ↓w_yes, ↓w_ife, ↓w_bl, ↓w_andV, ↓w_orV, ↓w_notV, ↓wn_i, ↓w_int, ↓w_chain, ↓hk_int, ↓hk_0, ↓hk_2, ↓hk_l, ↓hd_nil, ↓hd_l, ↓hd_r, ↓w_call, ↓w_callio, ↓is_l, ↓is_r, ↓is_s, ↓mk_nil, ↓mk_r, ↓mk_l, ↓ib_n, ↓ib_s, ↓ib_none, ↓wfl_n, ↓wfl_r, ↓w_run, ↓iv_n, ↓iv_z, ↓iv_s, ↓w_next, ↓w_break, ↓w_cont, ↓w_never, ↓wx_n, ↓wx_r, ↓wx_b, ↓wx_c, ↓w_seq, ↓w_set, ↓w_expr, ↓w_ret, ↓w_ifs, ↓wm_nil, ↓wm_c, ↓sm_nil, ↓sm_c, ↓w_par, ↓bt_n, ↓bt_t, ↓bt_l, ↓bts_n, ↓bts_c, ↓w_tgt, ↓w_it, ↓w_itV, ↓w_itF, ↓w_str, ↓w_itP, ↓w_for, ↓w_lc, ↓w_mut, ↓w_store, ↓st1, wp_ok, wp_no, wp_ex, br_t, br_f, br_not, gv_z, gv_s, sv_z, sv_s, nk_int, nk_bl, nk_str, nk_tup, nk_ro, nk_non, nk_lt, nk_lf, nk_f, kk_0, kk_1, wpo_some, wpo_none, wpo_map, wpo_bind, o_add, o_adds, o_addl, o_addt, o_sub, o_mul, o_mull, o_fd, o_md, o_pw, o_ng, o_lt, o_le, o_gt, o_ge, o_abs, o_int, o_intb, o_is_ti, o_is_tb, o_is_ts, o_is_tt, o_is_tl, o_tup, o_lst, o_lenl, o_lent, o_lenr, o_lens, o_ixl, o_ixt, o_ixr, ixL_o, ixL_m1, gRepr_ok, gEq_ok, gNe_ok, eqD_int, eqD_bl, eqD_non, eqD_tup, eqD_lst, eqD_str, eqDs_nil, eqDs_c, eqDs_cn, eqDs_nc, eqDs_ints, o_eqS, o_neS, o_eqI, o_neI, o_eqB, o_neB, o_allB, o_anyB, o_sumI, o_sumM, o_allM, o_anyM, o_max2, o_min2, o_maxI, o_minI, o_tuple, o_tuplet, o_list, o_listt, o_rng1, o_rng2, o_append, o_pop, o_set, wk_l, wk_t, wk_r, wk_s, mu_l, mu_d, d_mut_l, d_mut_i, d_mut_b, d_mut_s, d_mut_t, d_mut_n, ixN_o, List.set_cons_zero, List.set_cons_succ, List.getLast?_concat, o_sumAI, o_sumAM, o_sumAt, o_sumAt2, o_maxA2, o_minA2, o_maxAI, o_minAI, o_maxAt, o_minAt, o_inSS, o_ninSS, o_ixs, o_join, o_isb, o_isn, o_notb, o_notn, in_int, in_non, in_tup, in_lst, in_str, in_bl, o_inI, o_inIt, o_ninI, o_ninIt, o_inS, o_inSt, o_lrg1, o_lrg2, o_trg1, o_popAtI, o_sortI, o_sortIt, o_extend, o_revL, o_zipl, o_zipt, o_rev, o_enum, wfp_nil, wfp_r, wfp_l, fo_n, fo_c, fo_b, fo_r, un_nil, un_c, re_nil, re_c, ov_nil, ov_c, kOk_0, kOk_1, kOk_2, kOk_n, o_minB2, o_maxB2, o_minBI, o_maxBI, o_minBt, o_maxBt, o_sortBI, o_sortBIt, o_dict1i, o_dict1s, o_dicK, o_dicT, nk_dt, nk_df, d_mut_dic, o_is_td, in_dic, o_is_tn, o_enumAl, o_enumAt, o_mulT, o_dT0, o_putT, nk_dT, mut_dT, List.map_cons, List.map_nil, List.length_cons, List.length_nil, List.replicate_succ, List.replicate_zero, List.cons_append, List.nil_append, List.append_nil, List.length_map, List.length_range, List.drop_succ_cons, List.drop_zero, List.zip_cons_cons, List.zip_nil_right, List.zip_nil_left, List.getElem?_cons_zero, List.getElem?_cons_succ, Option.join_some, Option.join_none, Option.map_some, Option.map_none, decide_true, decide_false, decide_not, Bool.not_true, Bool.not_false, Bool.not_not, Bool.true_and, Bool.false_and, Bool.and_true, Bool.and_false, true_and, and_true, false_and, and_false, not_true_eq_false, not_false_eq_true, if_true, if_false, reduceCtorEq, Option.some.injEq, and_self, mb_l, mb_r, Nat.reduceAdd, Nat.reducePow, Nat.reduceSub, Nat.reduceMul, Nat.reduceLT, Nat.reduceGT, Nat.reduceLeDiff, Nat.reduceEqDiff, Nat.reduceBEq, Nat.reduceBNe, Int.reduceAdd, Int.reduceSub, Int.reduceMul, Int.reduceNeg, Int.reduceDiv, Int.reduceMod, Int.reduceLT, Int.reduceLE, Int.reduceGT, Int.reduceGE, Int.reduceEq, Int.reduceNe, Int.reduceToNat, Int.reducePow, Int.reduceAbs, Int.reduceBEq, Int.reduceBNe, reduceIte, Nat.zero_add, Nat.sub_zero, Nat.add_zero, Int.natCast_one, Int.cast_ofNat_Int, all2, h1, h2])
/-- the greatest that divides both -/
@[irreducible] def gd (w h : Int) : Int := (Int.gcd w h : Nat)
theorem gd_step {a b : Int} (ha : 0 ≤ a) (hb : 0 < b) : gd b (a % b) = gd a b := by
  obtain ⟨A, rfl⟩ := Int.eq_ofNat_of_zero_le ha
  obtain ⟨B, rfl⟩ := Int.eq_ofNat_of_zero_le (show 0 ≤ b by omega)
  unfold gd
  rw [← Int.natCast_emod, Int.gcd_natCast_natCast, Int.gcd_natCast_natCast, Nat.gcd_comm B, ← Nat.gcd_rec, Nat.gcd_comm]
theorem gd_0 {a : Int} (ha : 0 ≤ a) : gd a 0 = a := by
  unfold gd
  rw [Int.gcd_zero_right]
  omega
theorem q_divisor {a b : Int} (ha : 0 ≤ a ∧ a ≤ 100000) (hb : 0 ≤ b ∧ b ≤ 100000) : F_divisor [(.int a, 0), (.int b, 0)] = .ok (.int (gd a b)) none := wp_of (by
  have e1 : (if a < 0 then -a else a) = a := if_neg (by omega)
  have e2 : (if b < 0 then -b else b) = b := if_neg (by omega)
  simp (disch := first | assumption | omega | (refine okR_int ?_ ?_ <;> omega) | exact OkE.str | (refine okE_of ?_ ?_ <;> (simp only [okE_tup, okE_lst, okEs_c, okEs_nil, okEs_ints, okE_int, okE_bl, okE_non, okE_str, okEs_app, Bool.and_self, Bool.and_true] <;> decide +kernel))) only [↓w_c, ↓w_var, ↓w_mv, ↓wa_nil, ↓wa_vw, ↓wa_ev, ↓wf_nil, ↓wf_l, ↓wf_r, ↓w_ap, ↓wi_nil, ↓wi_r, ↓w_apF, ↓wb_b, ↓w_tb, ↓w_tru, ↓tr1, ↓tr_bl, ↓tr_int, ↓tr_non, ↓tr_lst, ↓tr_tup, ↓w_not, ↓w_and, ↓w_or, ↓w_yes, ↓w_ife, ↓w_bl, ↓w_andV, ↓w_orV, ↓w_notV, ↓wn_i, ↓w_int, ↓w_chain, ↓hk_int, ↓hk_0, ↓hk_2, ↓hk_l, ↓hd_nil, ↓hd_l, ↓hd_r, ↓w_call, ↓w_callio, ↓is_l, ↓is_r, ↓is_s, ↓mk_nil, ↓mk_r, ↓mk_l, ↓ib_n, ↓ib_s, ↓ib_none, ↓wfl_n, ↓wfl_r, ↓w_run, ↓iv_n, ↓iv_z, ↓iv_s, ↓w_next, ↓w_break, ↓w_cont, ↓w_never, ↓wx_n, ↓wx_r, ↓wx_b, ↓wx_c, ↓w_seq, ↓w_set, ↓w_expr, ↓w_ret, ↓w_ifs, ↓wm_nil, ↓wm_c, ↓sm_nil, ↓sm_c, ↓w_par, ↓bt_n, ↓bt_t, ↓bt_l, ↓bts_n, ↓bts_c, ↓w_tgt, ↓w_it, ↓w_itV, ↓w_itF, ↓w_str, ↓w_itP, ↓w_for, ↓w_lc, ↓w_mut, ↓w_store, ↓st1, wp_ok, wp_no, wp_ex, br_t, br_f, br_not, gv_z, gv_s, sv_z, sv_s, nk_int, nk_bl, nk_str, nk_tup, nk_ro, nk_non, nk_lt, nk_lf, nk_f, kk_0, kk_1, wpo_some, wpo_none, wpo_map, wpo_bind, o_add, o_adds, o_addl, o_addt, o_sub, o_mul, o_mull, o_fd, o_md, o_pw, o_ng, o_lt, o_le, o_gt, o_ge, o_abs, o_int, o_intb, o_is_ti, o_is_tb, o_is_ts, o_is_tt, o_is_tl, o_tup, o_lst, o_lenl, o_lent, o_lenr, o_lens, o_ixl, o_ixt, o_ixr, ixL_o, ixL_m1, gRepr_ok, gEq_ok, gNe_ok, eqD_int, eqD_bl, eqD_non, eqD_tup, eqD_lst, eqD_str, eqDs_nil, eqDs_c, eqDs_cn, eqDs_nc, eqDs_ints, o_eqS, o_neS, o_eqI, o_neI, o_eqB, o_neB, o_allB, o_anyB, o_sumI, o_sumM, o_allM, o_anyM, o_max2, o_min2, o_maxI, o_minI, o_tuple, o_tuplet, o_list, o_listt, o_rng1, o_rng2, o_append, o_pop, o_set, wk_l, wk_t, wk_r, wk_s, mu_l, mu_d, d_mut_l, d_mut_i, d_mut_b, d_mut_s, d_mut_t, d_mut_n, ixN_o, List.set_cons_zero, List.set_cons_succ, List.getLast?_concat, o_sumAI, o_sumAM, o_sumAt, o_sumAt2, o_maxA2, o_minA2, o_maxAI, o_minAI, o_maxAt, o_minAt, o_inSS, o_ninSS, o_ixs, o_join, o_isb, o_isn, o_notb, o_notn, in_int, in_non, in_tup, in_lst, in_str, in_bl, o_inI, o_inIt, o_ninI, o_ninIt, o_inS, o_inSt, o_lrg1, o_lrg2, o_trg1, o_popAtI, o_sortI, o_sortIt, o_extend, o_revL, o_zipl, o_zipt, o_rev, o_enum, wfp_nil, wfp_r, wfp_l, fo_n, fo_c, fo_b, fo_r, un_nil, un_c, re_nil, re_c, ov_nil, ov_c, kOk_0, kOk_1, kOk_2, kOk_n, o_minB2, o_maxB2, o_minBI, o_maxBI, o_minBt, o_maxBt, o_sortBI, o_sortBIt, o_dict1i, o_dict1s, o_dicK, o_dicT, nk_dt, nk_df, d_mut_dic, o_is_td, in_dic, o_is_tn, o_enumAl, o_enumAt, o_mulT, o_dT0, o_putT, nk_dT, mut_dT, List.map_cons, List.map_nil, List.length_cons, List.length_nil, List.replicate_succ, List.replicate_zero, List.cons_append, List.nil_append, List.append_nil, List.length_map, List.length_range, List.drop_succ_cons, List.drop_zero, List.zip_cons_cons, List.zip_nil_right, List.zip_nil_left, List.getElem?_cons_zero, List.getElem?_cons_succ, Option.join_some, Option.join_none, Option.map_some, Option.map_none, decide_true, decide_false, decide_not, Bool.not_true, Bool.not_false, Bool.not_not, Bool.true_and, Bool.false_and, Bool.and_true, Bool.and_false, true_and, and_true, false_and, and_false, not_true_eq_false, not_false_eq_true, if_true, if_false, reduceCtorEq, Option.some.injEq, and_self, mb_l, mb_r, Nat.reduceAdd, Nat.reducePow, Nat.reduceSub, Nat.reduceMul, Nat.reduceLT, Nat.reduceGT, Nat.reduceLeDiff, Nat.reduceEqDiff, Nat.reduceBEq, Nat.reduceBNe, Int.reduceAdd, Int.reduceSub, Int.reduceMul, Int.reduceNeg, Int.reduceDiv, Int.reduceMod, Int.reduceLT, Int.reduceLE, Int.reduceGT, Int.reduceGE, Int.reduceEq, Int.reduceNe, Int.reduceToNat, Int.reducePow, Int.reduceAbs, Int.reduceBEq, Int.reduceBNe, reduceIte, Nat.zero_add, Nat.sub_zero, Nat.add_zero, Int.natCast_one, Int.cast_ofNat_Int, F_divisor, b_divisor, e1, e2]
  refine wp_while (fun s => ∃ x y : Int, s = [some (.int x, 0), some (.int y, 0)] ∧ 0 ≤ x ∧ 0 ≤ y ∧ y ≤ 100000 ∧ gd x y = gd a b) (fun s => match s with
    | [_, some (.int y, _)] => y.toNat
    | _ => 0) ?_ ⟨a, b, rfl, by omega, by omega, by omega, rfl⟩ (by show b.toNat < _; omega)
  rintro s ⟨x, y, rfl, hx, hy, hy2, e⟩
  simp (disch := first | assumption | omega | (refine okR_int ?_ ?_ <;> omega) | exact OkE.str | (refine okE_of ?_ ?_ <;> (simp only [okE_tup, okE_lst, okEs_c, okEs_nil, okEs_ints, okE_int, okE_bl, okE_non, okE_str, okEs_app, Bool.and_self, Bool.and_true] <;> decide +kernel))) only [↓w_c, ↓w_var, ↓w_mv, ↓wa_nil, ↓wa_vw, ↓wa_ev, ↓wf_nil, ↓wf_l, ↓wf_r, ↓w_ap, ↓wi_nil, ↓wi_r, ↓w_apF, ↓wb_b, ↓w_tb, ↓w_tru, ↓tr1, ↓tr_bl, ↓tr_int, ↓tr_non, ↓tr_lst, ↓tr_tup, ↓w_not, ↓w_and, ↓w_or, ↓w_yes, ↓w_ife, ↓w_bl, ↓w_andV, ↓w_orV, ↓w_notV, ↓wn_i, ↓w_int, ↓w_chain, ↓hk_int, ↓hk_0, ↓hk_2, ↓hk_l, ↓hd_nil, ↓hd_l, ↓hd_r, ↓w_call, ↓w_callio, ↓is_l, ↓is_r, ↓is_s, ↓mk_nil, ↓mk_r, ↓mk_l, ↓ib_n, ↓ib_s, ↓ib_none, ↓wfl_n, ↓wfl_r, ↓w_run, ↓iv_n, ↓iv_z, ↓iv_s, ↓w_next, ↓w_break, ↓w_cont, ↓w_never, ↓wx_n, ↓wx_r, ↓wx_b, ↓wx_c, ↓w_seq, ↓w_set, ↓w_expr, ↓w_ret, ↓w_ifs, ↓wm_nil, ↓wm_c, ↓sm_nil, ↓sm_c, ↓w_par, ↓bt_n, ↓bt_t, ↓bt_l, ↓bts_n, ↓bts_c, ↓w_tgt, ↓w_it, ↓w_itV, ↓w_itF, ↓w_str, ↓w_itP, ↓w_for, ↓w_lc, ↓w_mut, ↓w_store, ↓st1, wp_ok, wp_no, wp_ex, br_t, br_f, br_not, gv_z, gv_s, sv_z, sv_s, nk_int, nk_bl, nk_str, nk_tup, nk_ro, nk_non, nk_lt, nk_lf, nk_f, kk_0, kk_1, wpo_some, wpo_none, wpo_map, wpo_bind, o_add, o_adds, o_addl, o_addt, o_sub, o_mul, o_mull, o_fd, o_md, o_pw, o_ng, o_lt, o_le, o_gt, o_ge, o_abs, o_int, o_intb, o_is_ti, o_is_tb, o_is_ts, o_is_tt, o_is_tl, o_tup, o_lst, o_lenl, o_lent, o_lenr, o_lens, o_ixl, o_ixt, o_ixr, ixL_o, ixL_m1, gRepr_ok, gEq_ok, gNe_ok, eqD_int, eqD_bl, eqD_non, eqD_tup, eqD_lst, eqD_str, eqDs_nil, eqDs_c, eqDs_cn, eqDs_nc, eqDs_ints, o_eqS, o_neS, o_eqI, o_neI, o_eqB, o_neB, o_allB, o_anyB, o_sumI, o_sumM, o_allM, o_anyM, o_max2, o_min2, o_maxI, o_minI, o_tuple, o_tuplet, o_list, o_listt, o_rng1, o_rng2, o_append, o_pop, o_set, wk_l, wk_t, wk_r, wk_s, mu_l, mu_d, d_mut_l, d_mut_i, d_mut_b, d_mut_s, d_mut_t, d_mut_n, ixN_o, List.set_cons_zero, List.set_cons_succ, List.getLast?_concat, o_sumAI, o_sumAM, o_sumAt, o_sumAt2, o_maxA2, o_minA2, o_maxAI, o_minAI, o_maxAt, o_minAt, o_inSS, o_ninSS, o_ixs, o_join, o_isb, o_isn, o_notb, o_notn, in_int, in_non, in_tup, in_lst, in_str, in_bl, o_inI, o_inIt, o_ninI, o_ninIt, o_inS, o_inSt, o_lrg1, o_lrg2, o_trg1, o_popAtI, o_sortI, o_sortIt, o_extend, o_revL, o_zipl, o_zipt, o_rev, o_enum, wfp_nil, wfp_r, wfp_l, fo_n, fo_c, fo_b, fo_r, un_nil, un_c, re_nil, re_c, ov_nil, ov_c, kOk_0, kOk_1, kOk_2, kOk_n, o_minB2, o_maxB2, o_minBI, o_maxBI, o_minBt, o_maxBt, o_sortBI, o_sortBIt, o_dict1i, o_dict1s, o_dicK, o_dicT, nk_dt, nk_df, d_mut_dic, o_is_td, in_dic, o_is_tn, o_enumAl, o_enumAt, o_mulT, o_dT0, o_putT, nk_dT, mut_dT, List.map_cons, List.map_nil, List.length_cons, List.length_nil, List.replicate_succ, List.replicate_zero, List.cons_append, List.nil_append, List.append_nil, List.length_map, List.length_range, List.drop_succ_cons, List.drop_zero, List.zip_cons_cons, List.zip_nil_right, List.zip_nil_left, List.getElem?_cons_zero, List.getElem?_cons_succ, Option.join_some, Option.join_none, Option.map_some, Option.map_none, decide_true, decide_false, decide_not, Bool.not_true, Bool.not_false, Bool.not_not, Bool.true_and, Bool.false_and, Bool.and_true, Bool.and_false, true_and, and_true, false_and, and_false, not_true_eq_false, not_false_eq_true, if_true, if_false, reduceCtorEq, Option.some.injEq, and_self, mb_l, mb_r, Nat.reduceAdd, Nat.reducePow, Nat.reduceSub, Nat.reduceMul, Nat.reduceLT, Nat.reduceGT, Nat.reduceLeDiff, Nat.reduceEqDiff, Nat.reduceBEq, Nat.reduceBNe, Int.reduceAdd, Int.reduceSub, Int.reduceMul, Int.reduceNeg, Int.reduceDiv, Int.reduceMod, Int.reduceLT, Int.reduceLE, Int.reduceGT, Int.reduceGE, Int.reduceEq, Int.reduceNe, Int.reduceToNat, Int.reducePow, Int.reduceAbs, Int.reduceBEq, Int.reduceBNe, reduceIte, Nat.zero_add, Nat.sub_zero, Nat.add_zero, Int.natCast_one, Int.cast_ofNat_Int]
  refine br_ci (fun c => ?_) (fun c => ?_)
  · subst c
    simp (disch := first | assumption | omega | (refine okR_int ?_ ?_ <;> omega) | exact OkE.str | (refine okE_of ?_ ?_ <;> (simp only [okE_tup, okE_lst, okEs_c, okEs_nil, okEs_ints, okE_int, okE_bl, okE_non, okE_str, okEs_app, Bool.and_self, Bool.and_true] <;> decide +kernel))) only [↓w_c, ↓w_var, ↓w_mv, ↓wa_nil, ↓wa_vw, ↓wa_ev, ↓wf_nil, ↓wf_l, ↓wf_r, ↓w_ap, ↓wi_nil, ↓wi_r, ↓w_apF, ↓wb_b, ↓w_tb, ↓w_tru, ↓tr1, ↓tr_bl, ↓tr_int, ↓tr_non, ↓tr_lst, ↓tr_tup, ↓w_not, ↓w_and, ↓w_or, ↓w_yes, ↓w_ife, ↓w_bl, ↓w_andV, ↓w_orV, ↓w_notV, ↓wn_i, ↓w_int, ↓w_chain, ↓hk_int, ↓hk_0, ↓hk_2, ↓hk_l, ↓hd_nil, ↓hd_l, ↓hd_r, ↓w_call, ↓w_callio, ↓is_l, ↓is_r, ↓is_s, ↓mk_nil, ↓mk_r, ↓mk_l, ↓ib_n, ↓ib_s, ↓ib_none, ↓wfl_n, ↓wfl_r, ↓w_run, ↓iv_n, ↓iv_z, ↓iv_s, ↓w_next, ↓w_break, ↓w_cont, ↓w_never, ↓wx_n, ↓wx_r, ↓wx_b, ↓wx_c, ↓w_seq, ↓w_set, ↓w_expr, ↓w_ret, ↓w_ifs, ↓wm_nil, ↓wm_c, ↓sm_nil, ↓sm_c, ↓w_par, ↓bt_n, ↓bt_t, ↓bt_l, ↓bts_n, ↓bts_c, ↓w_tgt, ↓w_it, ↓w_itV, ↓w_itF, ↓w_str, ↓w_itP, ↓w_for, ↓w_lc, ↓w_mut, ↓w_store, ↓st1, wp_ok, wp_no, wp_ex, br_t, br_f, br_not, gv_z, gv_s, sv_z, sv_s, nk_int, nk_bl, nk_str, nk_tup, nk_ro, nk_non, nk_lt, nk_lf, nk_f, kk_0, kk_1, wpo_some, wpo_none, wpo_map, wpo_bind, o_add, o_adds, o_addl, o_addt, o_sub, o_mul, o_mull, o_fd, o_md, o_pw, o_ng, o_lt, o_le, o_gt, o_ge, o_abs, o_int, o_intb, o_is_ti, o_is_tb, o_is_ts, o_is_tt, o_is_tl, o_tup, o_lst, o_lenl, o_lent, o_lenr, o_lens, o_ixl, o_ixt, o_ixr, ixL_o, ixL_m1, gRepr_ok, gEq_ok, gNe_ok, eqD_int, eqD_bl, eqD_non, eqD_tup, eqD_lst, eqD_str, eqDs_nil, eqDs_c, eqDs_cn, eqDs_nc, eqDs_ints, o_eqS, o_neS, o_eqI, o_neI, o_eqB, o_neB, o_allB, o_anyB, o_sumI, o_sumM, o_allM, o_anyM, o_max2, o_min2, o_maxI, o_minI, o_tuple, o_tuplet, o_list, o_listt, o_rng1, o_rng2, o_append, o_pop, o_set, wk_l, wk_t, wk_r, wk_s, mu_l, mu_d, d_mut_l, d_mut_i, d_mut_b, d_mut_s, d_mut_t, d_mut_n, ixN_o, List.set_cons_zero, List.set_cons_succ, List.getLast?_concat, o_sumAI, o_sumAM, o_sumAt, o_sumAt2, o_maxA2, o_minA2, o_maxAI, o_minAI, o_maxAt, o_minAt, o_inSS, o_ninSS, o_ixs, o_join, o_isb, o_isn, o_notb, o_notn, in_int, in_non, in_tup, in_lst, in_str, in_bl, o_inI, o_inIt, o_ninI, o_ninIt, o_inS, o_inSt, o_lrg1, o_lrg2, o_trg1, o_popAtI, o_sortI, o_sortIt, o_extend, o_revL, o_zipl, o_zipt, o_rev, o_enum, wfp_nil, wfp_r, wfp_l, fo_n, fo_c, fo_b, fo_r, un_nil, un_c, re_nil, re_c, ov_nil, ov_c, kOk_0, kOk_1, kOk_2, kOk_n, o_minB2, o_maxB2, o_minBI, o_maxBI, o_minBt, o_maxBt, o_sortBI, o_sortBIt, o_dict1i, o_dict1s, o_dicK, o_dicT, nk_dt, nk_df, d_mut_dic, o_is_td, in_dic, o_is_tn, o_enumAl, o_enumAt, o_mulT, o_dT0, o_putT, nk_dT, mut_dT, List.map_cons, List.map_nil, List.length_cons, List.length_nil, List.replicate_succ, List.replicate_zero, List.cons_append, List.nil_append, List.append_nil, List.length_map, List.length_range, List.drop_succ_cons, List.drop_zero, List.zip_cons_cons, List.zip_nil_right, List.zip_nil_left, List.getElem?_cons_zero, List.getElem?_cons_succ, Option.join_some, Option.join_none, Option.map_some, Option.map_none, decide_true, decide_false, decide_not, Bool.not_true, Bool.not_false, Bool.not_not, Bool.true_and, Bool.false_and, Bool.and_true, Bool.and_false, true_and, and_true, false_and, and_false, not_true_eq_false, not_false_eq_true, if_true, if_false, reduceCtorEq, Option.some.injEq, and_self, mb_l, mb_r, Nat.reduceAdd, Nat.reducePow, Nat.reduceSub, Nat.reduceMul, Nat.reduceLT, Nat.reduceGT, Nat.reduceLeDiff, Nat.reduceEqDiff, Nat.reduceBEq, Nat.reduceBNe, Int.reduceAdd, Int.reduceSub, Int.reduceMul, Int.reduceNeg, Int.reduceDiv, Int.reduceMod, Int.reduceLT, Int.reduceLE, Int.reduceGT, Int.reduceGE, Int.reduceEq, Int.reduceNe, Int.reduceToNat, Int.reducePow, Int.reduceAbs, Int.reduceBEq, Int.reduceBNe, reduceIte, Nat.zero_add, Nat.sub_zero, Nat.add_zero, Int.natCast_one, Int.cast_ofNat_Int]
    rw [gd_0 hx] at e
    exact congrArg D.int e
  · simp (disch := first | assumption | omega | (refine okR_int ?_ ?_ <;> omega) | exact OkE.str | (refine okE_of ?_ ?_ <;> (simp only [okE_tup, okE_lst, okEs_c, okEs_nil, okEs_ints, okE_int, okE_bl, okE_non, okE_str, okEs_app, Bool.and_self, Bool.and_true] <;> decide +kernel))) only [↓w_c, ↓w_var, ↓w_mv, ↓wa_nil, ↓wa_vw, ↓wa_ev, ↓wf_nil, ↓wf_l, ↓wf_r, ↓w_ap, ↓wi_nil, ↓wi_r, ↓w_apF, ↓wb_b, ↓w_tb, ↓w_tru, ↓tr1, ↓tr_bl, ↓tr_int, ↓tr_non, ↓tr_lst, ↓tr_tup, ↓w_not, ↓w_and, ↓w_or, ↓w_yes, ↓w_ife, ↓w_bl, ↓w_andV, ↓w_orV, ↓w_notV, ↓wn_i, ↓w_int, ↓w_chain, ↓hk_int, ↓hk_0, ↓hk_2, ↓hk_l, ↓hd_nil, ↓hd_l, ↓hd_r, ↓w_call, ↓w_callio, ↓is_l, ↓is_r, ↓is_s, ↓mk_nil, ↓mk_r, ↓mk_l, ↓ib_n, ↓ib_s, ↓ib_none, ↓wfl_n, ↓wfl_r, ↓w_run, ↓iv_n, ↓iv_z, ↓iv_s, ↓w_next, ↓w_break, ↓w_cont, ↓w_never, ↓wx_n, ↓wx_r, ↓wx_b, ↓wx_c, ↓w_seq, ↓w_set, ↓w_expr, ↓w_ret, ↓w_ifs, ↓wm_nil, ↓wm_c, ↓sm_nil, ↓sm_c, ↓w_par, ↓bt_n, ↓bt_t, ↓bt_l, ↓bts_n, ↓bts_c, ↓w_tgt, ↓w_it, ↓w_itV, ↓w_itF, ↓w_str, ↓w_itP, ↓w_for, ↓w_lc, ↓w_mut, ↓w_store, ↓st1, wp_ok, wp_no, wp_ex, br_t, br_f, br_not, gv_z, gv_s, sv_z, sv_s, nk_int, nk_bl, nk_str, nk_tup, nk_ro, nk_non, nk_lt, nk_lf, nk_f, kk_0, kk_1, wpo_some, wpo_none, wpo_map, wpo_bind, o_add, o_adds, o_addl, o_addt, o_sub, o_mul, o_mull, o_fd, o_md, o_pw, o_ng, o_lt, o_le, o_gt, o_ge, o_abs, o_int, o_intb, o_is_ti, o_is_tb, o_is_ts, o_is_tt, o_is_tl, o_tup, o_lst, o_lenl, o_lent, o_lenr, o_lens, o_ixl, o_ixt, o_ixr, ixL_o, ixL_m1, gRepr_ok, gEq_ok, gNe_ok, eqD_int, eqD_bl, eqD_non, eqD_tup, eqD_lst, eqD_str, eqDs_nil, eqDs_c, eqDs_cn, eqDs_nc, eqDs_ints, o_eqS, o_neS, o_eqI, o_neI, o_eqB, o_neB, o_allB, o_anyB, o_sumI, o_sumM, o_allM, o_anyM, o_max2, o_min2, o_maxI, o_minI, o_tuple, o_tuplet, o_list, o_listt, o_rng1, o_rng2, o_append, o_pop, o_set, wk_l, wk_t, wk_r, wk_s, mu_l, mu_d, d_mut_l, d_mut_i, d_mut_b, d_mut_s, d_mut_t, d_mut_n, ixN_o, List.set_cons_zero, List.set_cons_succ, List.getLast?_concat, o_sumAI, o_sumAM, o_sumAt, o_sumAt2, o_maxA2, o_minA2, o_maxAI, o_minAI, o_maxAt, o_minAt, o_inSS, o_ninSS, o_ixs, o_join, o_isb, o_isn, o_notb, o_notn, in_int, in_non, in_tup, in_lst, in_str, in_bl, o_inI, o_inIt, o_ninI, o_ninIt, o_inS, o_inSt, o_lrg1, o_lrg2, o_trg1, o_popAtI, o_sortI, o_sortIt, o_extend, o_revL, o_zipl, o_zipt, o_rev, o_enum, wfp_nil, wfp_r, wfp_l, fo_n, fo_c, fo_b, fo_r, un_nil, un_c, re_nil, re_c, ov_nil, ov_c, kOk_0, kOk_1, kOk_2, kOk_n, o_minB2, o_maxB2, o_minBI, o_maxBI, o_minBt, o_maxBt, o_sortBI, o_sortBIt, o_dict1i, o_dict1s, o_dicK, o_dicT, nk_dt, nk_df, d_mut_dic, o_is_td, in_dic, o_is_tn, o_enumAl, o_enumAt, o_mulT, o_dT0, o_putT, nk_dT, mut_dT, List.map_cons, List.map_nil, List.length_cons, List.length_nil, List.replicate_succ, List.replicate_zero, List.cons_append, List.nil_append, List.append_nil, List.length_map, List.length_range, List.drop_succ_cons, List.drop_zero, List.zip_cons_cons, List.zip_nil_right, List.zip_nil_left, List.getElem?_cons_zero, List.getElem?_cons_succ, Option.join_some, Option.join_none, Option.map_some, Option.map_none, decide_true, decide_false, decide_not, Bool.not_true, Bool.not_false, Bool.not_not, Bool.true_and, Bool.false_and, Bool.and_true, Bool.and_false, true_and, and_true, false_and, and_false, not_true_eq_false, not_false_eq_true, if_true, if_false, reduceCtorEq, Option.some.injEq, and_self, mb_l, mb_r, Nat.reduceAdd, Nat.reducePow, Nat.reduceSub, Nat.reduceMul, Nat.reduceLT, Nat.reduceGT, Nat.reduceLeDiff, Nat.reduceEqDiff, Nat.reduceBEq, Nat.reduceBNe, Int.reduceAdd, Int.reduceSub, Int.reduceMul, Int.reduceNeg, Int.reduceDiv, Int.reduceMod, Int.reduceLT, Int.reduceLE, Int.reduceGT, Int.reduceGE, Int.reduceEq, Int.reduceNe, Int.reduceToNat, Int.reducePow, Int.reduceAbs, Int.reduceBEq, Int.reduceBNe, reduceIte, Nat.zero_add, Nat.sub_zero, Nat.add_zero, Int.natCast_one, Int.cast_ofNat_Int]
    have m0 := Int.emod_nonneg x c
    have m1 := Int.emod_lt_of_pos x (show 0 < y by omega)
    exact ⟨by omega, ⟨_, _, rfl, by omega, by omega, by omega, by rw [gd_step hx (by omega)]; exact e⟩, by omega⟩)
theorem q_law_common {a b : Int} (ha : 0 ≤ a ∧ a ≤ 100000) (hb : 0 ≤ b ∧ b ≤ 100000) : F__law_common [(.int a, 0), (.int b, 0)] = .ok (.int (gd a b)) none := wp_of (by
  simp (disch := first | assumption | omega | (refine okR_int ?_ ?_ <;> omega) | exact OkE.str | (refine okE_of ?_ ?_ <;> (simp only [okE_tup, okE_lst, okEs_c, okEs_nil, okEs_ints, okE_int, okE_bl, okE_non, okE_str, okEs_app, Bool.and_self, Bool.and_true] <;> decide +kernel))) only [↓w_c, ↓w_var, ↓w_mv, ↓wa_nil, ↓wa_vw, ↓wa_ev, ↓wf_nil, ↓wf_l, ↓wf_r, ↓w_ap, ↓wi_nil, ↓wi_r, ↓w_apF, ↓wb_b, ↓w_tb, ↓w_tru, ↓tr1, ↓tr_bl, ↓tr_int, ↓tr_non, ↓tr_lst, ↓tr_tup, ↓w_not, ↓w_and, ↓w_or, ↓w_yes, ↓w_ife, ↓w_bl, ↓w_andV, ↓w_orV, ↓w_notV, ↓wn_i, ↓w_int, ↓w_chain, ↓hk_int, ↓hk_0, ↓hk_2, ↓hk_l, ↓hd_nil, ↓hd_l, ↓hd_r, ↓w_call, ↓w_callio, ↓is_l, ↓is_r, ↓is_s, ↓mk_nil, ↓mk_r, ↓mk_l, ↓ib_n, ↓ib_s, ↓ib_none, ↓wfl_n, ↓wfl_r, ↓w_run, ↓iv_n, ↓iv_z, ↓iv_s, ↓w_next, ↓w_break, ↓w_cont, ↓w_never, ↓wx_n, ↓wx_r, ↓wx_b, ↓wx_c, ↓w_seq, ↓w_set, ↓w_expr, ↓w_ret, ↓w_ifs, ↓wm_nil, ↓wm_c, ↓sm_nil, ↓sm_c, ↓w_par, ↓bt_n, ↓bt_t, ↓bt_l, ↓bts_n, ↓bts_c, ↓w_tgt, ↓w_it, ↓w_itV, ↓w_itF, ↓w_str, ↓w_itP, ↓w_for, ↓w_lc, ↓w_mut, ↓w_store, ↓st1, wp_ok, wp_no, wp_ex, br_t, br_f, br_not, gv_z, gv_s, sv_z, sv_s, nk_int, nk_bl, nk_str, nk_tup, nk_ro, nk_non, nk_lt, nk_lf, nk_f, kk_0, kk_1, wpo_some, wpo_none, wpo_map, wpo_bind, o_add, o_adds, o_addl, o_addt, o_sub, o_mul, o_mull, o_fd, o_md, o_pw, o_ng, o_lt, o_le, o_gt, o_ge, o_abs, o_int, o_intb, o_is_ti, o_is_tb, o_is_ts, o_is_tt, o_is_tl, o_tup, o_lst, o_lenl, o_lent, o_lenr, o_lens, o_ixl, o_ixt, o_ixr, ixL_o, ixL_m1, gRepr_ok, gEq_ok, gNe_ok, eqD_int, eqD_bl, eqD_non, eqD_tup, eqD_lst, eqD_str, eqDs_nil, eqDs_c, eqDs_cn, eqDs_nc, eqDs_ints, o_eqS, o_neS, o_eqI, o_neI, o_eqB, o_neB, o_allB, o_anyB, o_sumI, o_sumM, o_allM, o_anyM, o_max2, o_min2, o_maxI, o_minI, o_tuple, o_tuplet, o_list, o_listt, o_rng1, o_rng2, o_append, o_pop, o_set, wk_l, wk_t, wk_r, wk_s, mu_l, mu_d, d_mut_l, d_mut_i, d_mut_b, d_mut_s, d_mut_t, d_mut_n, ixN_o, List.set_cons_zero, List.set_cons_succ, List.getLast?_concat, o_sumAI, o_sumAM, o_sumAt, o_sumAt2, o_maxA2, o_minA2, o_maxAI, o_minAI, o_maxAt, o_minAt, o_inSS, o_ninSS, o_ixs, o_join, o_isb, o_isn, o_notb, o_notn, in_int, in_non, in_tup, in_lst, in_str, in_bl, o_inI, o_inIt, o_ninI, o_ninIt, o_inS, o_inSt, o_lrg1, o_lrg2, o_trg1, o_popAtI, o_sortI, o_sortIt, o_extend, o_revL, o_zipl, o_zipt, o_rev, o_enum, wfp_nil, wfp_r, wfp_l, fo_n, fo_c, fo_b, fo_r, un_nil, un_c, re_nil, re_c, ov_nil, ov_c, kOk_0, kOk_1, kOk_2, kOk_n, o_minB2, o_maxB2, o_minBI, o_maxBI, o_minBt, o_maxBt, o_sortBI, o_sortBIt, o_dict1i, o_dict1s, o_dicK, o_dicT, nk_dt, nk_df, d_mut_dic, o_is_td, in_dic, o_is_tn, o_enumAl, o_enumAt, o_mulT, o_dT0, o_putT, nk_dT, mut_dT, List.map_cons, List.map_nil, List.length_cons, List.length_nil, List.replicate_succ, List.replicate_zero, List.cons_append, List.nil_append, List.append_nil, List.length_map, List.length_range, List.drop_succ_cons, List.drop_zero, List.zip_cons_cons, List.zip_nil_right, List.zip_nil_left, List.getElem?_cons_zero, List.getElem?_cons_succ, Option.join_some, Option.join_none, Option.map_some, Option.map_none, decide_true, decide_false, decide_not, Bool.not_true, Bool.not_false, Bool.not_not, Bool.true_and, Bool.false_and, Bool.and_true, Bool.and_false, true_and, and_true, false_and, and_false, not_true_eq_false, not_false_eq_true, if_true, if_false, reduceCtorEq, Option.some.injEq, and_self, mb_l, mb_r, Nat.reduceAdd, Nat.reducePow, Nat.reduceSub, Nat.reduceMul, Nat.reduceLT, Nat.reduceGT, Nat.reduceLeDiff, Nat.reduceEqDiff, Nat.reduceBEq, Nat.reduceBNe, Int.reduceAdd, Int.reduceSub, Int.reduceMul, Int.reduceNeg, Int.reduceDiv, Int.reduceMod, Int.reduceLT, Int.reduceLE, Int.reduceGT, Int.reduceGE, Int.reduceEq, Int.reduceNe, Int.reduceToNat, Int.reducePow, Int.reduceAbs, Int.reduceBEq, Int.reduceBNe, reduceIte, Nat.zero_add, Nat.sub_zero, Nat.add_zero, Int.natCast_one, Int.cast_ofNat_Int, F__law_common, b__law_common]
  refine wp_while (fun s => ∃ x y : Int, s = [some (.int x, 0), some (.int y, 0)] ∧ 0 ≤ x ∧ 0 ≤ y ∧ y ≤ 100000 ∧ gd x y = gd a b) (fun s => match s with
    | [_, some (.int y, _)] => y.toNat
    | _ => 0) ?_ ⟨a, b, rfl, by omega, by omega, by omega, rfl⟩ (by show b.toNat < _; omega)
  rintro s ⟨x, y, rfl, hx, hy, hy2, e⟩
  simp (disch := first | assumption | omega | (refine okR_int ?_ ?_ <;> omega) | exact OkE.str | (refine okE_of ?_ ?_ <;> (simp only [okE_tup, okE_lst, okEs_c, okEs_nil, okEs_ints, okE_int, okE_bl, okE_non, okE_str, okEs_app, Bool.and_self, Bool.and_true] <;> decide +kernel))) only [↓w_c, ↓w_var, ↓w_mv, ↓wa_nil, ↓wa_vw, ↓wa_ev, ↓wf_nil, ↓wf_l, ↓wf_r, ↓w_ap, ↓wi_nil, ↓wi_r, ↓w_apF, ↓wb_b, ↓w_tb, ↓w_tru, ↓tr1, ↓tr_bl, ↓tr_int, ↓tr_non, ↓tr_lst, ↓tr_tup, ↓w_not, ↓w_and, ↓w_or, ↓w_yes, ↓w_ife, ↓w_bl, ↓w_andV, ↓w_orV, ↓w_notV, ↓wn_i, ↓w_int, ↓w_chain, ↓hk_int, ↓hk_0, ↓hk_2, ↓hk_l, ↓hd_nil, ↓hd_l, ↓hd_r, ↓w_call, ↓w_callio, ↓is_l, ↓is_r, ↓is_s, ↓mk_nil, ↓mk_r, ↓mk_l, ↓ib_n, ↓ib_s, ↓ib_none, ↓wfl_n, ↓wfl_r, ↓w_run, ↓iv_n, ↓iv_z, ↓iv_s, ↓w_next, ↓w_break, ↓w_cont, ↓w_never, ↓wx_n, ↓wx_r, ↓wx_b, ↓wx_c, ↓w_seq, ↓w_set, ↓w_expr, ↓w_ret, ↓w_ifs, ↓wm_nil, ↓wm_c, ↓sm_nil, ↓sm_c, ↓w_par, ↓bt_n, ↓bt_t, ↓bt_l, ↓bts_n, ↓bts_c, ↓w_tgt, ↓w_it, ↓w_itV, ↓w_itF, ↓w_str, ↓w_itP, ↓w_for, ↓w_lc, ↓w_mut, ↓w_store, ↓st1, wp_ok, wp_no, wp_ex, br_t, br_f, br_not, gv_z, gv_s, sv_z, sv_s, nk_int, nk_bl, nk_str, nk_tup, nk_ro, nk_non, nk_lt, nk_lf, nk_f, kk_0, kk_1, wpo_some, wpo_none, wpo_map, wpo_bind, o_add, o_adds, o_addl, o_addt, o_sub, o_mul, o_mull, o_fd, o_md, o_pw, o_ng, o_lt, o_le, o_gt, o_ge, o_abs, o_int, o_intb, o_is_ti, o_is_tb, o_is_ts, o_is_tt, o_is_tl, o_tup, o_lst, o_lenl, o_lent, o_lenr, o_lens, o_ixl, o_ixt, o_ixr, ixL_o, ixL_m1, gRepr_ok, gEq_ok, gNe_ok, eqD_int, eqD_bl, eqD_non, eqD_tup, eqD_lst, eqD_str, eqDs_nil, eqDs_c, eqDs_cn, eqDs_nc, eqDs_ints, o_eqS, o_neS, o_eqI, o_neI, o_eqB, o_neB, o_allB, o_anyB, o_sumI, o_sumM, o_allM, o_anyM, o_max2, o_min2, o_maxI, o_minI, o_tuple, o_tuplet, o_list, o_listt, o_rng1, o_rng2, o_append, o_pop, o_set, wk_l, wk_t, wk_r, wk_s, mu_l, mu_d, d_mut_l, d_mut_i, d_mut_b, d_mut_s, d_mut_t, d_mut_n, ixN_o, List.set_cons_zero, List.set_cons_succ, List.getLast?_concat, o_sumAI, o_sumAM, o_sumAt, o_sumAt2, o_maxA2, o_minA2, o_maxAI, o_minAI, o_maxAt, o_minAt, o_inSS, o_ninSS, o_ixs, o_join, o_isb, o_isn, o_notb, o_notn, in_int, in_non, in_tup, in_lst, in_str, in_bl, o_inI, o_inIt, o_ninI, o_ninIt, o_inS, o_inSt, o_lrg1, o_lrg2, o_trg1, o_popAtI, o_sortI, o_sortIt, o_extend, o_revL, o_zipl, o_zipt, o_rev, o_enum, wfp_nil, wfp_r, wfp_l, fo_n, fo_c, fo_b, fo_r, un_nil, un_c, re_nil, re_c, ov_nil, ov_c, kOk_0, kOk_1, kOk_2, kOk_n, o_minB2, o_maxB2, o_minBI, o_maxBI, o_minBt, o_maxBt, o_sortBI, o_sortBIt, o_dict1i, o_dict1s, o_dicK, o_dicT, nk_dt, nk_df, d_mut_dic, o_is_td, in_dic, o_is_tn, o_enumAl, o_enumAt, o_mulT, o_dT0, o_putT, nk_dT, mut_dT, List.map_cons, List.map_nil, List.length_cons, List.length_nil, List.replicate_succ, List.replicate_zero, List.cons_append, List.nil_append, List.append_nil, List.length_map, List.length_range, List.drop_succ_cons, List.drop_zero, List.zip_cons_cons, List.zip_nil_right, List.zip_nil_left, List.getElem?_cons_zero, List.getElem?_cons_succ, Option.join_some, Option.join_none, Option.map_some, Option.map_none, decide_true, decide_false, decide_not, Bool.not_true, Bool.not_false, Bool.not_not, Bool.true_and, Bool.false_and, Bool.and_true, Bool.and_false, true_and, and_true, false_and, and_false, not_true_eq_false, not_false_eq_true, if_true, if_false, reduceCtorEq, Option.some.injEq, and_self, mb_l, mb_r, Nat.reduceAdd, Nat.reducePow, Nat.reduceSub, Nat.reduceMul, Nat.reduceLT, Nat.reduceGT, Nat.reduceLeDiff, Nat.reduceEqDiff, Nat.reduceBEq, Nat.reduceBNe, Int.reduceAdd, Int.reduceSub, Int.reduceMul, Int.reduceNeg, Int.reduceDiv, Int.reduceMod, Int.reduceLT, Int.reduceLE, Int.reduceGT, Int.reduceGE, Int.reduceEq, Int.reduceNe, Int.reduceToNat, Int.reducePow, Int.reduceAbs, Int.reduceBEq, Int.reduceBNe, reduceIte, Nat.zero_add, Nat.sub_zero, Nat.add_zero, Int.natCast_one, Int.cast_ofNat_Int]
  refine br_ci (fun c => ?_) (fun c => ?_)
  · subst c
    simp (disch := first | assumption | omega | (refine okR_int ?_ ?_ <;> omega) | exact OkE.str | (refine okE_of ?_ ?_ <;> (simp only [okE_tup, okE_lst, okEs_c, okEs_nil, okEs_ints, okE_int, okE_bl, okE_non, okE_str, okEs_app, Bool.and_self, Bool.and_true] <;> decide +kernel))) only [↓w_c, ↓w_var, ↓w_mv, ↓wa_nil, ↓wa_vw, ↓wa_ev, ↓wf_nil, ↓wf_l, ↓wf_r, ↓w_ap, ↓wi_nil, ↓wi_r, ↓w_apF, ↓wb_b, ↓w_tb, ↓w_tru, ↓tr1, ↓tr_bl, ↓tr_int, ↓tr_non, ↓tr_lst, ↓tr_tup, ↓w_not, ↓w_and, ↓w_or, ↓w_yes, ↓w_ife, ↓w_bl, ↓w_andV, ↓w_orV, ↓w_notV, ↓wn_i, ↓w_int, ↓w_chain, ↓hk_int, ↓hk_0, ↓hk_2, ↓hk_l, ↓hd_nil, ↓hd_l, ↓hd_r, ↓w_call, ↓w_callio, ↓is_l, ↓is_r, ↓is_s, ↓mk_nil, ↓mk_r, ↓mk_l, ↓ib_n, ↓ib_s, ↓ib_none, ↓wfl_n, ↓wfl_r, ↓w_run, ↓iv_n, ↓iv_z, ↓iv_s, ↓w_next, ↓w_break, ↓w_cont, ↓w_never, ↓wx_n, ↓wx_r, ↓wx_b, ↓wx_c, ↓w_seq, ↓w_set, ↓w_expr, ↓w_ret, ↓w_ifs, ↓wm_nil, ↓wm_c, ↓sm_nil, ↓sm_c, ↓w_par, ↓bt_n, ↓bt_t, ↓bt_l, ↓bts_n, ↓bts_c, ↓w_tgt, ↓w_it, ↓w_itV, ↓w_itF, ↓w_str, ↓w_itP, ↓w_for, ↓w_lc, ↓w_mut, ↓w_store, ↓st1, wp_ok, wp_no, wp_ex, br_t, br_f, br_not, gv_z, gv_s, sv_z, sv_s, nk_int, nk_bl, nk_str, nk_tup, nk_ro, nk_non, nk_lt, nk_lf, nk_f, kk_0, kk_1, wpo_some, wpo_none, wpo_map, wpo_bind, o_add, o_adds, o_addl, o_addt, o_sub, o_mul, o_mull, o_fd, o_md, o_pw, o_ng, o_lt, o_le, o_gt, o_ge, o_abs, o_int, o_intb, o_is_ti, o_is_tb, o_is_ts, o_is_tt, o_is_tl, o_tup, o_lst, o_lenl, o_lent, o_lenr, o_lens, o_ixl, o_ixt, o_ixr, ixL_o, ixL_m1, gRepr_ok, gEq_ok, gNe_ok, eqD_int, eqD_bl, eqD_non, eqD_tup, eqD_lst, eqD_str, eqDs_nil, eqDs_c, eqDs_cn, eqDs_nc, eqDs_ints, o_eqS, o_neS, o_eqI, o_neI, o_eqB, o_neB, o_allB, o_anyB, o_sumI, o_sumM, o_allM, o_anyM, o_max2, o_min2, o_maxI, o_minI, o_tuple, o_tuplet, o_list, o_listt, o_rng1, o_rng2, o_append, o_pop, o_set, wk_l, wk_t, wk_r, wk_s, mu_l, mu_d, d_mut_l, d_mut_i, d_mut_b, d_mut_s, d_mut_t, d_mut_n, ixN_o, List.set_cons_zero, List.set_cons_succ, List.getLast?_concat, o_sumAI, o_sumAM, o_sumAt, o_sumAt2, o_maxA2, o_minA2, o_maxAI, o_minAI, o_maxAt, o_minAt, o_inSS, o_ninSS, o_ixs, o_join, o_isb, o_isn, o_notb, o_notn, in_int, in_non, in_tup, in_lst, in_str, in_bl, o_inI, o_inIt, o_ninI, o_ninIt, o_inS, o_inSt, o_lrg1, o_lrg2, o_trg1, o_popAtI, o_sortI, o_sortIt, o_extend, o_revL, o_zipl, o_zipt, o_rev, o_enum, wfp_nil, wfp_r, wfp_l, fo_n, fo_c, fo_b, fo_r, un_nil, un_c, re_nil, re_c, ov_nil, ov_c, kOk_0, kOk_1, kOk_2, kOk_n, o_minB2, o_maxB2, o_minBI, o_maxBI, o_minBt, o_maxBt, o_sortBI, o_sortBIt, o_dict1i, o_dict1s, o_dicK, o_dicT, nk_dt, nk_df, d_mut_dic, o_is_td, in_dic, o_is_tn, o_enumAl, o_enumAt, o_mulT, o_dT0, o_putT, nk_dT, mut_dT, List.map_cons, List.map_nil, List.length_cons, List.length_nil, List.replicate_succ, List.replicate_zero, List.cons_append, List.nil_append, List.append_nil, List.length_map, List.length_range, List.drop_succ_cons, List.drop_zero, List.zip_cons_cons, List.zip_nil_right, List.zip_nil_left, List.getElem?_cons_zero, List.getElem?_cons_succ, Option.join_some, Option.join_none, Option.map_some, Option.map_none, decide_true, decide_false, decide_not, Bool.not_true, Bool.not_false, Bool.not_not, Bool.true_and, Bool.false_and, Bool.and_true, Bool.and_false, true_and, and_true, false_and, and_false, not_true_eq_false, not_false_eq_true, if_true, if_false, reduceCtorEq, Option.some.injEq, and_self, mb_l, mb_r, Nat.reduceAdd, Nat.reducePow, Nat.reduceSub, Nat.reduceMul, Nat.reduceLT, Nat.reduceGT, Nat.reduceLeDiff, Nat.reduceEqDiff, Nat.reduceBEq, Nat.reduceBNe, Int.reduceAdd, Int.reduceSub, Int.reduceMul, Int.reduceNeg, Int.reduceDiv, Int.reduceMod, Int.reduceLT, Int.reduceLE, Int.reduceGT, Int.reduceGE, Int.reduceEq, Int.reduceNe, Int.reduceToNat, Int.reducePow, Int.reduceAbs, Int.reduceBEq, Int.reduceBNe, reduceIte, Nat.zero_add, Nat.sub_zero, Nat.add_zero, Int.natCast_one, Int.cast_ofNat_Int]
    rw [gd_0 hx] at e
    exact congrArg D.int e
  · simp (disch := first | assumption | omega | (refine okR_int ?_ ?_ <;> omega) | exact OkE.str | (refine okE_of ?_ ?_ <;> (simp only [okE_tup, okE_lst, okEs_c, okEs_nil, okEs_ints, okE_int, okE_bl, okE_non, okE_str, okEs_app, Bool.and_self, Bool.and_true] <;> decide +kernel))) only [↓w_c, ↓w_var, ↓w_mv, ↓wa_nil, ↓wa_vw, ↓wa_ev, ↓wf_nil, ↓wf_l, ↓wf_r, ↓w_ap, ↓wi_nil, ↓wi_r, ↓w_apF, ↓wb_b, ↓w_tb, ↓w_tru, ↓tr1, ↓tr_bl, ↓tr_int, ↓tr_non, ↓tr_lst, ↓tr_tup, ↓w_not, ↓w_and, ↓w_or, ↓w_yes, ↓w_ife, ↓w_bl, ↓w_andV, ↓w_orV, ↓w_notV, ↓wn_i, ↓w_int, ↓w_chain, ↓hk_int, ↓hk_0, ↓hk_2, ↓hk_l, ↓hd_nil, ↓hd_l, ↓hd_r, ↓w_call, ↓w_callio, ↓is_l, ↓is_r, ↓is_s, ↓mk_nil, ↓mk_r, ↓mk_l, ↓ib_n, ↓ib_s, ↓ib_none, ↓wfl_n, ↓wfl_r, ↓w_run, ↓iv_n, ↓iv_z, ↓iv_s, ↓w_next, ↓w_break, ↓w_cont, ↓w_never, ↓wx_n, ↓wx_r, ↓wx_b, ↓wx_c, ↓w_seq, ↓w_set, ↓w_expr, ↓w_ret, ↓w_ifs, ↓wm_nil, ↓wm_c, ↓sm_nil, ↓sm_c, ↓w_par, ↓bt_n, ↓bt_t, ↓bt_l, ↓bts_n, ↓bts_c, ↓w_tgt, ↓w_it, ↓w_itV, ↓w_itF, ↓w_str, ↓w_itP, ↓w_for, ↓w_lc, ↓w_mut, ↓w_store, ↓st1, wp_ok, wp_no, wp_ex, br_t, br_f, br_not, gv_z, gv_s, sv_z, sv_s, nk_int, nk_bl, nk_str, nk_tup, nk_ro, nk_non, nk_lt, nk_lf, nk_f, kk_0, kk_1, wpo_some, wpo_none, wpo_map, wpo_bind, o_add, o_adds, o_addl, o_addt, o_sub, o_mul, o_mull, o_fd, o_md, o_pw, o_ng, o_lt, o_le, o_gt, o_ge, o_abs, o_int, o_intb, o_is_ti, o_is_tb, o_is_ts, o_is_tt, o_is_tl, o_tup, o_lst, o_lenl, o_lent, o_lenr, o_lens, o_ixl, o_ixt, o_ixr, ixL_o, ixL_m1, gRepr_ok, gEq_ok, gNe_ok, eqD_int, eqD_bl, eqD_non, eqD_tup, eqD_lst, eqD_str, eqDs_nil, eqDs_c, eqDs_cn, eqDs_nc, eqDs_ints, o_eqS, o_neS, o_eqI, o_neI, o_eqB, o_neB, o_allB, o_anyB, o_sumI, o_sumM, o_allM, o_anyM, o_max2, o_min2, o_maxI, o_minI, o_tuple, o_tuplet, o_list, o_listt, o_rng1, o_rng2, o_append, o_pop, o_set, wk_l, wk_t, wk_r, wk_s, mu_l, mu_d, d_mut_l, d_mut_i, d_mut_b, d_mut_s, d_mut_t, d_mut_n, ixN_o, List.set_cons_zero, List.set_cons_succ, List.getLast?_concat, o_sumAI, o_sumAM, o_sumAt, o_sumAt2, o_maxA2, o_minA2, o_maxAI, o_minAI, o_maxAt, o_minAt, o_inSS, o_ninSS, o_ixs, o_join, o_isb, o_isn, o_notb, o_notn, in_int, in_non, in_tup, in_lst, in_str, in_bl, o_inI, o_inIt, o_ninI, o_ninIt, o_inS, o_inSt, o_lrg1, o_lrg2, o_trg1, o_popAtI, o_sortI, o_sortIt, o_extend, o_revL, o_zipl, o_zipt, o_rev, o_enum, wfp_nil, wfp_r, wfp_l, fo_n, fo_c, fo_b, fo_r, un_nil, un_c, re_nil, re_c, ov_nil, ov_c, kOk_0, kOk_1, kOk_2, kOk_n, o_minB2, o_maxB2, o_minBI, o_maxBI, o_minBt, o_maxBt, o_sortBI, o_sortBIt, o_dict1i, o_dict1s, o_dicK, o_dicT, nk_dt, nk_df, d_mut_dic, o_is_td, in_dic, o_is_tn, o_enumAl, o_enumAt, o_mulT, o_dT0, o_putT, nk_dT, mut_dT, List.map_cons, List.map_nil, List.length_cons, List.length_nil, List.replicate_succ, List.replicate_zero, List.cons_append, List.nil_append, List.append_nil, List.length_map, List.length_range, List.drop_succ_cons, List.drop_zero, List.zip_cons_cons, List.zip_nil_right, List.zip_nil_left, List.getElem?_cons_zero, List.getElem?_cons_succ, Option.join_some, Option.join_none, Option.map_some, Option.map_none, decide_true, decide_false, decide_not, Bool.not_true, Bool.not_false, Bool.not_not, Bool.true_and, Bool.false_and, Bool.and_true, Bool.and_false, true_and, and_true, false_and, and_false, not_true_eq_false, not_false_eq_true, if_true, if_false, reduceCtorEq, Option.some.injEq, and_self, mb_l, mb_r, Nat.reduceAdd, Nat.reducePow, Nat.reduceSub, Nat.reduceMul, Nat.reduceLT, Nat.reduceGT, Nat.reduceLeDiff, Nat.reduceEqDiff, Nat.reduceBEq, Nat.reduceBNe, Int.reduceAdd, Int.reduceSub, Int.reduceMul, Int.reduceNeg, Int.reduceDiv, Int.reduceMod, Int.reduceLT, Int.reduceLE, Int.reduceGT, Int.reduceGE, Int.reduceEq, Int.reduceNe, Int.reduceToNat, Int.reducePow, Int.reduceAbs, Int.reduceBEq, Int.reduceBNe, reduceIte, Nat.zero_add, Nat.sub_zero, Nat.add_zero, Int.natCast_one, Int.cast_ofNat_Int]
    have m0 := Int.emod_nonneg x c
    have m1 := Int.emod_lt_of_pos x (show 0 < y by omega)
    exact ⟨by omega, ⟨_, _, rfl, by omega, by omega, by omega, by rw [gd_step hx (by omega)]; exact e⟩, by omega⟩)
theorem gd_bd {w h : Int} (h1 : Ok w) (h2 : Ok h) : 1 ≤ gd w h ∧ gd w h ≤ 60 := by
  have a : Int.gcd w h ∣ w.natAbs := Nat.gcd_dvd_left ..
  have b := Nat.le_of_dvd (by omega) a
  have c : 0 < Int.gcd w h := Nat.gcd_pos_of_pos_left _ (by omega)
  unfold gd
  omega
/-- how many steps -/
@[irreducible] def ls (w h : Int) : Int := w * h / gd w h
theorem mul_bd {w h : Int} (h1 : Ok w) (h2 : Ok h) : 1 ≤ w * h ∧ w * h ≤ 3600 := by
  have a : 1 * 1 ≤ w * h := Int.mul_le_mul h1.1 h2.1 (by omega) (by omega)
  have b : w * h ≤ 60 * 60 := Int.mul_le_mul h1.2 h2.2 (by omega) (by omega)
  omega
theorem ls_bd {w h : Int} (h1 : Ok w) (h2 : Ok h) : 0 ≤ ls w h ∧ ls w h ≤ 3600 := by
  have := mul_bd h1 h2
  have g := gd_bd h1 h2
  unfold ls
  exact ⟨Int.ediv_nonneg (by omega) (by omega), Int.le_trans (Int.ediv_le_self _ (by omega)) (by omega)⟩
theorem q_steps {w h : Int} (h1 : Ok w) (h2 : Ok h) : F_steps_to [(.tup [.int w, .int h], 0)] = .ok (.int (ls w h)) none := wp_of (by
  have g := gd_bd h1 h2
  have mb : Mb w h := by left; omega
  simp (disch := first | assumption | omega | (refine okR_int ?_ ?_ <;> omega) | exact OkE.str | (refine okE_of ?_ ?_ <;> (simp only [okE_tup, okE_lst, okEs_c, okEs_nil, okEs_ints, okE_int, okE_bl, okE_non, okE_str, okEs_app, Bool.and_self, Bool.and_true] <;> decide +kernel))) only [↓w_c, ↓w_var, ↓w_mv, ↓wa_nil, ↓wa_vw, ↓wa_ev, ↓wf_nil, ↓wf_l, ↓wf_r, ↓w_ap, ↓wi_nil, ↓wi_r, ↓w_apF, ↓wb_b, ↓w_tb, ↓w_tru, ↓tr1, ↓tr_bl, ↓tr_int, ↓tr_non, ↓tr_lst, ↓tr_tup, ↓w_not, ↓w_and, ↓w_or, ↓w_yes, ↓w_ife, ↓w_bl, ↓w_andV, ↓w_orV, ↓w_notV, ↓wn_i, ↓w_int, ↓w_chain, ↓hk_int, ↓hk_0, ↓hk_2, ↓hk_l, ↓hd_nil, ↓hd_l, ↓hd_r, ↓w_call, ↓w_callio, ↓is_l, ↓is_r, ↓is_s, ↓mk_nil, ↓mk_r, ↓mk_l, ↓ib_n, ↓ib_s, ↓ib_none, ↓wfl_n, ↓wfl_r, ↓w_run, ↓iv_n, ↓iv_z, ↓iv_s, ↓w_next, ↓w_break, ↓w_cont, ↓w_never, ↓wx_n, ↓wx_r, ↓wx_b, ↓wx_c, ↓w_seq, ↓w_set, ↓w_expr, ↓w_ret, ↓w_ifs, ↓wm_nil, ↓wm_c, ↓sm_nil, ↓sm_c, ↓w_par, ↓bt_n, ↓bt_t, ↓bt_l, ↓bts_n, ↓bts_c, ↓w_tgt, ↓w_it, ↓w_itV, ↓w_itF, ↓w_str, ↓w_itP, ↓w_for, ↓w_lc, ↓w_mut, ↓w_store, ↓st1, wp_ok, wp_no, wp_ex, br_t, br_f, br_not, gv_z, gv_s, sv_z, sv_s, nk_int, nk_bl, nk_str, nk_tup, nk_ro, nk_non, nk_lt, nk_lf, nk_f, kk_0, kk_1, wpo_some, wpo_none, wpo_map, wpo_bind, o_add, o_adds, o_addl, o_addt, o_sub, o_mul, o_mull, o_fd, o_md, o_pw, o_ng, o_lt, o_le, o_gt, o_ge, o_abs, o_int, o_intb, o_is_ti, o_is_tb, o_is_ts, o_is_tt, o_is_tl, o_tup, o_lst, o_lenl, o_lent, o_lenr, o_lens, o_ixl, o_ixt, o_ixr, ixL_o, ixL_m1, gRepr_ok, gEq_ok, gNe_ok, eqD_int, eqD_bl, eqD_non, eqD_tup, eqD_lst, eqD_str, eqDs_nil, eqDs_c, eqDs_cn, eqDs_nc, eqDs_ints, o_eqS, o_neS, o_eqI, o_neI, o_eqB, o_neB, o_allB, o_anyB, o_sumI, o_sumM, o_allM, o_anyM, o_max2, o_min2, o_maxI, o_minI, o_tuple, o_tuplet, o_list, o_listt, o_rng1, o_rng2, o_append, o_pop, o_set, wk_l, wk_t, wk_r, wk_s, mu_l, mu_d, d_mut_l, d_mut_i, d_mut_b, d_mut_s, d_mut_t, d_mut_n, ixN_o, List.set_cons_zero, List.set_cons_succ, List.getLast?_concat, o_sumAI, o_sumAM, o_sumAt, o_sumAt2, o_maxA2, o_minA2, o_maxAI, o_minAI, o_maxAt, o_minAt, o_inSS, o_ninSS, o_ixs, o_join, o_isb, o_isn, o_notb, o_notn, in_int, in_non, in_tup, in_lst, in_str, in_bl, o_inI, o_inIt, o_ninI, o_ninIt, o_inS, o_inSt, o_lrg1, o_lrg2, o_trg1, o_popAtI, o_sortI, o_sortIt, o_extend, o_revL, o_zipl, o_zipt, o_rev, o_enum, wfp_nil, wfp_r, wfp_l, fo_n, fo_c, fo_b, fo_r, un_nil, un_c, re_nil, re_c, ov_nil, ov_c, kOk_0, kOk_1, kOk_2, kOk_n, o_minB2, o_maxB2, o_minBI, o_maxBI, o_minBt, o_maxBt, o_sortBI, o_sortBIt, o_dict1i, o_dict1s, o_dicK, o_dicT, nk_dt, nk_df, d_mut_dic, o_is_td, in_dic, o_is_tn, o_enumAl, o_enumAt, o_mulT, o_dT0, o_putT, nk_dT, mut_dT, List.map_cons, List.map_nil, List.length_cons, List.length_nil, List.replicate_succ, List.replicate_zero, List.cons_append, List.nil_append, List.append_nil, List.length_map, List.length_range, List.drop_succ_cons, List.drop_zero, List.zip_cons_cons, List.zip_nil_right, List.zip_nil_left, List.getElem?_cons_zero, List.getElem?_cons_succ, Option.join_some, Option.join_none, Option.map_some, Option.map_none, decide_true, decide_false, decide_not, Bool.not_true, Bool.not_false, Bool.not_not, Bool.true_and, Bool.false_and, Bool.and_true, Bool.and_false, true_and, and_true, false_and, and_false, not_true_eq_false, not_false_eq_true, if_true, if_false, reduceCtorEq, Option.some.injEq, and_self, mb_l, mb_r, Nat.reduceAdd, Nat.reducePow, Nat.reduceSub, Nat.reduceMul, Nat.reduceLT, Nat.reduceGT, Nat.reduceLeDiff, Nat.reduceEqDiff, Nat.reduceBEq, Nat.reduceBNe, Int.reduceAdd, Int.reduceSub, Int.reduceMul, Int.reduceNeg, Int.reduceDiv, Int.reduceMod, Int.reduceLT, Int.reduceLE, Int.reduceGT, Int.reduceGE, Int.reduceEq, Int.reduceNe, Int.reduceToNat, Int.reducePow, Int.reduceAbs, Int.reduceBEq, Int.reduceBNe, reduceIte, Nat.zero_add, Nat.sub_zero, Nat.add_zero, Int.natCast_one, Int.cast_ofNat_Int, F_steps_to, b_steps_to, q_divisor]
  exact ⟨by omega, by unfold ls; rfl⟩)
/-- folded -/
def fo (x w : Int) : Int := if x % (2 * w) ≤ w then x % (2 * w) else 2 * w - x % (2 * w)
theorem q_folded {x w : Int} (h1 : Ok w) : F_folded [(.int x, 0), (.int w, 0)] = .ok (.int (fo x w)) none := wp_of (by
  simp (disch := first | assumption | omega | (refine okR_int ?_ ?_ <;> omega) | exact OkE.str | (refine okE_of ?_ ?_ <;> (simp only [okE_tup, okE_lst, okEs_c, okEs_nil, okEs_ints, okE_int, okE_bl, okE_non, okE_str, okEs_app, Bool.and_self, Bool.and_true] <;> decide +kernel))) only [↓w_c, ↓w_var, ↓w_mv, ↓wa_nil, ↓wa_vw, ↓wa_ev, ↓wf_nil, ↓wf_l, ↓wf_r, ↓w_ap, ↓wi_nil, ↓wi_r, ↓w_apF, ↓wb_b, ↓w_tb, ↓w_tru, ↓tr1, ↓tr_bl, ↓tr_int, ↓tr_non, ↓tr_lst, ↓tr_tup, ↓w_not, ↓w_and, ↓w_or, ↓w_yes, ↓w_ife, ↓w_bl, ↓w_andV, ↓w_orV, ↓w_notV, ↓wn_i, ↓w_int, ↓w_chain, ↓hk_int, ↓hk_0, ↓hk_2, ↓hk_l, ↓hd_nil, ↓hd_l, ↓hd_r, ↓w_call, ↓w_callio, ↓is_l, ↓is_r, ↓is_s, ↓mk_nil, ↓mk_r, ↓mk_l, ↓ib_n, ↓ib_s, ↓ib_none, ↓wfl_n, ↓wfl_r, ↓w_run, ↓iv_n, ↓iv_z, ↓iv_s, ↓w_next, ↓w_break, ↓w_cont, ↓w_never, ↓wx_n, ↓wx_r, ↓wx_b, ↓wx_c, ↓w_seq, ↓w_set, ↓w_expr, ↓w_ret, ↓w_ifs, ↓wm_nil, ↓wm_c, ↓sm_nil, ↓sm_c, ↓w_par, ↓bt_n, ↓bt_t, ↓bt_l, ↓bts_n, ↓bts_c, ↓w_tgt, ↓w_it, ↓w_itV, ↓w_itF, ↓w_str, ↓w_itP, ↓w_for, ↓w_lc, ↓w_mut, ↓w_store, ↓st1, wp_ok, wp_no, wp_ex, br_t, br_f, br_not, gv_z, gv_s, sv_z, sv_s, nk_int, nk_bl, nk_str, nk_tup, nk_ro, nk_non, nk_lt, nk_lf, nk_f, kk_0, kk_1, wpo_some, wpo_none, wpo_map, wpo_bind, o_add, o_adds, o_addl, o_addt, o_sub, o_mul, o_mull, o_fd, o_md, o_pw, o_ng, o_lt, o_le, o_gt, o_ge, o_abs, o_int, o_intb, o_is_ti, o_is_tb, o_is_ts, o_is_tt, o_is_tl, o_tup, o_lst, o_lenl, o_lent, o_lenr, o_lens, o_ixl, o_ixt, o_ixr, ixL_o, ixL_m1, gRepr_ok, gEq_ok, gNe_ok, eqD_int, eqD_bl, eqD_non, eqD_tup, eqD_lst, eqD_str, eqDs_nil, eqDs_c, eqDs_cn, eqDs_nc, eqDs_ints, o_eqS, o_neS, o_eqI, o_neI, o_eqB, o_neB, o_allB, o_anyB, o_sumI, o_sumM, o_allM, o_anyM, o_max2, o_min2, o_maxI, o_minI, o_tuple, o_tuplet, o_list, o_listt, o_rng1, o_rng2, o_append, o_pop, o_set, wk_l, wk_t, wk_r, wk_s, mu_l, mu_d, d_mut_l, d_mut_i, d_mut_b, d_mut_s, d_mut_t, d_mut_n, ixN_o, List.set_cons_zero, List.set_cons_succ, List.getLast?_concat, o_sumAI, o_sumAM, o_sumAt, o_sumAt2, o_maxA2, o_minA2, o_maxAI, o_minAI, o_maxAt, o_minAt, o_inSS, o_ninSS, o_ixs, o_join, o_isb, o_isn, o_notb, o_notn, in_int, in_non, in_tup, in_lst, in_str, in_bl, o_inI, o_inIt, o_ninI, o_ninIt, o_inS, o_inSt, o_lrg1, o_lrg2, o_trg1, o_popAtI, o_sortI, o_sortIt, o_extend, o_revL, o_zipl, o_zipt, o_rev, o_enum, wfp_nil, wfp_r, wfp_l, fo_n, fo_c, fo_b, fo_r, un_nil, un_c, re_nil, re_c, ov_nil, ov_c, kOk_0, kOk_1, kOk_2, kOk_n, o_minB2, o_maxB2, o_minBI, o_maxBI, o_minBt, o_maxBt, o_sortBI, o_sortBIt, o_dict1i, o_dict1s, o_dicK, o_dicT, nk_dt, nk_df, d_mut_dic, o_is_td, in_dic, o_is_tn, o_enumAl, o_enumAt, o_mulT, o_dT0, o_putT, nk_dT, mut_dT, List.map_cons, List.map_nil, List.length_cons, List.length_nil, List.replicate_succ, List.replicate_zero, List.cons_append, List.nil_append, List.append_nil, List.length_map, List.length_range, List.drop_succ_cons, List.drop_zero, List.zip_cons_cons, List.zip_nil_right, List.zip_nil_left, List.getElem?_cons_zero, List.getElem?_cons_succ, Option.join_some, Option.join_none, Option.map_some, Option.map_none, decide_true, decide_false, decide_not, Bool.not_true, Bool.not_false, Bool.not_not, Bool.true_and, Bool.false_and, Bool.and_true, Bool.and_false, true_and, and_true, false_and, and_false, not_true_eq_false, not_false_eq_true, if_true, if_false, reduceCtorEq, Option.some.injEq, and_self, mb_l, mb_r, Nat.reduceAdd, Nat.reducePow, Nat.reduceSub, Nat.reduceMul, Nat.reduceLT, Nat.reduceGT, Nat.reduceLeDiff, Nat.reduceEqDiff, Nat.reduceBEq, Nat.reduceBNe, Int.reduceAdd, Int.reduceSub, Int.reduceMul, Int.reduceNeg, Int.reduceDiv, Int.reduceMod, Int.reduceLT, Int.reduceLE, Int.reduceGT, Int.reduceGE, Int.reduceEq, Int.reduceNe, Int.reduceToNat, Int.reducePow, Int.reduceAbs, Int.reduceBEq, Int.reduceBNe, reduceIte, Nat.zero_add, Nat.sub_zero, Nat.add_zero, Int.natCast_one, Int.cast_ofNat_Int, F_folded, b_folded]
  refine ⟨by omega, ?_⟩
  unfold fo
  congr 1
  split <;> split <;> omega)
theorem q_law_at {x w : Int} (h1 : Ok w) : F__law_at [(.int w, 0), (.int x, 0)] = .ok (.int (fo x w)) none := wp_of (by
  simp (disch := first | assumption | omega | (refine okR_int ?_ ?_ <;> omega) | exact OkE.str | (refine okE_of ?_ ?_ <;> (simp only [okE_tup, okE_lst, okEs_c, okEs_nil, okEs_ints, okE_int, okE_bl, okE_non, okE_str, okEs_app, Bool.and_self, Bool.and_true] <;> decide +kernel))) only [↓w_c, ↓w_var, ↓w_mv, ↓wa_nil, ↓wa_vw, ↓wa_ev, ↓wf_nil, ↓wf_l, ↓wf_r, ↓w_ap, ↓wi_nil, ↓wi_r, ↓w_apF, ↓wb_b, ↓w_tb, ↓w_tru, ↓tr1, ↓tr_bl, ↓tr_int, ↓tr_non, ↓tr_lst, ↓tr_tup, ↓w_not, ↓w_and, ↓w_or, ↓w_yes, ↓w_ife, ↓w_bl, ↓w_andV, ↓w_orV, ↓w_notV, ↓wn_i, ↓w_int, ↓w_chain, ↓hk_int, ↓hk_0, ↓hk_2, ↓hk_l, ↓hd_nil, ↓hd_l, ↓hd_r, ↓w_call, ↓w_callio, ↓is_l, ↓is_r, ↓is_s, ↓mk_nil, ↓mk_r, ↓mk_l, ↓ib_n, ↓ib_s, ↓ib_none, ↓wfl_n, ↓wfl_r, ↓w_run, ↓iv_n, ↓iv_z, ↓iv_s, ↓w_next, ↓w_break, ↓w_cont, ↓w_never, ↓wx_n, ↓wx_r, ↓wx_b, ↓wx_c, ↓w_seq, ↓w_set, ↓w_expr, ↓w_ret, ↓w_ifs, ↓wm_nil, ↓wm_c, ↓sm_nil, ↓sm_c, ↓w_par, ↓bt_n, ↓bt_t, ↓bt_l, ↓bts_n, ↓bts_c, ↓w_tgt, ↓w_it, ↓w_itV, ↓w_itF, ↓w_str, ↓w_itP, ↓w_for, ↓w_lc, ↓w_mut, ↓w_store, ↓st1, wp_ok, wp_no, wp_ex, br_t, br_f, br_not, gv_z, gv_s, sv_z, sv_s, nk_int, nk_bl, nk_str, nk_tup, nk_ro, nk_non, nk_lt, nk_lf, nk_f, kk_0, kk_1, wpo_some, wpo_none, wpo_map, wpo_bind, o_add, o_adds, o_addl, o_addt, o_sub, o_mul, o_mull, o_fd, o_md, o_pw, o_ng, o_lt, o_le, o_gt, o_ge, o_abs, o_int, o_intb, o_is_ti, o_is_tb, o_is_ts, o_is_tt, o_is_tl, o_tup, o_lst, o_lenl, o_lent, o_lenr, o_lens, o_ixl, o_ixt, o_ixr, ixL_o, ixL_m1, gRepr_ok, gEq_ok, gNe_ok, eqD_int, eqD_bl, eqD_non, eqD_tup, eqD_lst, eqD_str, eqDs_nil, eqDs_c, eqDs_cn, eqDs_nc, eqDs_ints, o_eqS, o_neS, o_eqI, o_neI, o_eqB, o_neB, o_allB, o_anyB, o_sumI, o_sumM, o_allM, o_anyM, o_max2, o_min2, o_maxI, o_minI, o_tuple, o_tuplet, o_list, o_listt, o_rng1, o_rng2, o_append, o_pop, o_set, wk_l, wk_t, wk_r, wk_s, mu_l, mu_d, d_mut_l, d_mut_i, d_mut_b, d_mut_s, d_mut_t, d_mut_n, ixN_o, List.set_cons_zero, List.set_cons_succ, List.getLast?_concat, o_sumAI, o_sumAM, o_sumAt, o_sumAt2, o_maxA2, o_minA2, o_maxAI, o_minAI, o_maxAt, o_minAt, o_inSS, o_ninSS, o_ixs, o_join, o_isb, o_isn, o_notb, o_notn, in_int, in_non, in_tup, in_lst, in_str, in_bl, o_inI, o_inIt, o_ninI, o_ninIt, o_inS, o_inSt, o_lrg1, o_lrg2, o_trg1, o_popAtI, o_sortI, o_sortIt, o_extend, o_revL, o_zipl, o_zipt, o_rev, o_enum, wfp_nil, wfp_r, wfp_l, fo_n, fo_c, fo_b, fo_r, un_nil, un_c, re_nil, re_c, ov_nil, ov_c, kOk_0, kOk_1, kOk_2, kOk_n, o_minB2, o_maxB2, o_minBI, o_maxBI, o_minBt, o_maxBt, o_sortBI, o_sortBIt, o_dict1i, o_dict1s, o_dicK, o_dicT, nk_dt, nk_df, d_mut_dic, o_is_td, in_dic, o_is_tn, o_enumAl, o_enumAt, o_mulT, o_dT0, o_putT, nk_dT, mut_dT, List.map_cons, List.map_nil, List.length_cons, List.length_nil, List.replicate_succ, List.replicate_zero, List.cons_append, List.nil_append, List.append_nil, List.length_map, List.length_range, List.drop_succ_cons, List.drop_zero, List.zip_cons_cons, List.zip_nil_right, List.zip_nil_left, List.getElem?_cons_zero, List.getElem?_cons_succ, Option.join_some, Option.join_none, Option.map_some, Option.map_none, decide_true, decide_false, decide_not, Bool.not_true, Bool.not_false, Bool.not_not, Bool.true_and, Bool.false_and, Bool.and_true, Bool.and_false, true_and, and_true, false_and, and_false, not_true_eq_false, not_false_eq_true, if_true, if_false, reduceCtorEq, Option.some.injEq, and_self, mb_l, mb_r, Nat.reduceAdd, Nat.reducePow, Nat.reduceSub, Nat.reduceMul, Nat.reduceLT, Nat.reduceGT, Nat.reduceLeDiff, Nat.reduceEqDiff, Nat.reduceBEq, Nat.reduceBNe, Int.reduceAdd, Int.reduceSub, Int.reduceMul, Int.reduceNeg, Int.reduceDiv, Int.reduceMod, Int.reduceLT, Int.reduceLE, Int.reduceGT, Int.reduceGE, Int.reduceEq, Int.reduceNe, Int.reduceToNat, Int.reducePow, Int.reduceAbs, Int.reduceBEq, Int.reduceBNe, reduceIte, Nat.zero_add, Nat.sub_zero, Nat.add_zero, Int.natCast_one, Int.cast_ofNat_Int, F__law_at, b__law_at]
  refine ⟨by omega, ?_⟩
  refine br_ci (fun e => ?_) (fun e => ?_)
  · simp (disch := first | assumption | omega | (refine okR_int ?_ ?_ <;> omega) | exact OkE.str | (refine okE_of ?_ ?_ <;> (simp only [okE_tup, okE_lst, okEs_c, okEs_nil, okEs_ints, okE_int, okE_bl, okE_non, okE_str, okEs_app, Bool.and_self, Bool.and_true] <;> decide +kernel))) only [↓w_c, ↓w_var, ↓w_mv, ↓wa_nil, ↓wa_vw, ↓wa_ev, ↓wf_nil, ↓wf_l, ↓wf_r, ↓w_ap, ↓wi_nil, ↓wi_r, ↓w_apF, ↓wb_b, ↓w_tb, ↓w_tru, ↓tr1, ↓tr_bl, ↓tr_int, ↓tr_non, ↓tr_lst, ↓tr_tup, ↓w_not, ↓w_and, ↓w_or, ↓w_yes, ↓w_ife, ↓w_bl, ↓w_andV, ↓w_orV, ↓w_notV, ↓wn_i, ↓w_int, ↓w_chain, ↓hk_int, ↓hk_0, ↓hk_2, ↓hk_l, ↓hd_nil, ↓hd_l, ↓hd_r, ↓w_call, ↓w_callio, ↓is_l, ↓is_r, ↓is_s, ↓mk_nil, ↓mk_r, ↓mk_l, ↓ib_n, ↓ib_s, ↓ib_none, ↓wfl_n, ↓wfl_r, ↓w_run, ↓iv_n, ↓iv_z, ↓iv_s, ↓w_next, ↓w_break, ↓w_cont, ↓w_never, ↓wx_n, ↓wx_r, ↓wx_b, ↓wx_c, ↓w_seq, ↓w_set, ↓w_expr, ↓w_ret, ↓w_ifs, ↓wm_nil, ↓wm_c, ↓sm_nil, ↓sm_c, ↓w_par, ↓bt_n, ↓bt_t, ↓bt_l, ↓bts_n, ↓bts_c, ↓w_tgt, ↓w_it, ↓w_itV, ↓w_itF, ↓w_str, ↓w_itP, ↓w_for, ↓w_lc, ↓w_mut, ↓w_store, ↓st1, wp_ok, wp_no, wp_ex, br_t, br_f, br_not, gv_z, gv_s, sv_z, sv_s, nk_int, nk_bl, nk_str, nk_tup, nk_ro, nk_non, nk_lt, nk_lf, nk_f, kk_0, kk_1, wpo_some, wpo_none, wpo_map, wpo_bind, o_add, o_adds, o_addl, o_addt, o_sub, o_mul, o_mull, o_fd, o_md, o_pw, o_ng, o_lt, o_le, o_gt, o_ge, o_abs, o_int, o_intb, o_is_ti, o_is_tb, o_is_ts, o_is_tt, o_is_tl, o_tup, o_lst, o_lenl, o_lent, o_lenr, o_lens, o_ixl, o_ixt, o_ixr, ixL_o, ixL_m1, gRepr_ok, gEq_ok, gNe_ok, eqD_int, eqD_bl, eqD_non, eqD_tup, eqD_lst, eqD_str, eqDs_nil, eqDs_c, eqDs_cn, eqDs_nc, eqDs_ints, o_eqS, o_neS, o_eqI, o_neI, o_eqB, o_neB, o_allB, o_anyB, o_sumI, o_sumM, o_allM, o_anyM, o_max2, o_min2, o_maxI, o_minI, o_tuple, o_tuplet, o_list, o_listt, o_rng1, o_rng2, o_append, o_pop, o_set, wk_l, wk_t, wk_r, wk_s, mu_l, mu_d, d_mut_l, d_mut_i, d_mut_b, d_mut_s, d_mut_t, d_mut_n, ixN_o, List.set_cons_zero, List.set_cons_succ, List.getLast?_concat, o_sumAI, o_sumAM, o_sumAt, o_sumAt2, o_maxA2, o_minA2, o_maxAI, o_minAI, o_maxAt, o_minAt, o_inSS, o_ninSS, o_ixs, o_join, o_isb, o_isn, o_notb, o_notn, in_int, in_non, in_tup, in_lst, in_str, in_bl, o_inI, o_inIt, o_ninI, o_ninIt, o_inS, o_inSt, o_lrg1, o_lrg2, o_trg1, o_popAtI, o_sortI, o_sortIt, o_extend, o_revL, o_zipl, o_zipt, o_rev, o_enum, wfp_nil, wfp_r, wfp_l, fo_n, fo_c, fo_b, fo_r, un_nil, un_c, re_nil, re_c, ov_nil, ov_c, kOk_0, kOk_1, kOk_2, kOk_n, o_minB2, o_maxB2, o_minBI, o_maxBI, o_minBt, o_maxBt, o_sortBI, o_sortBIt, o_dict1i, o_dict1s, o_dicK, o_dicT, nk_dt, nk_df, d_mut_dic, o_is_td, in_dic, o_is_tn, o_enumAl, o_enumAt, o_mulT, o_dT0, o_putT, nk_dT, mut_dT, List.map_cons, List.map_nil, List.length_cons, List.length_nil, List.replicate_succ, List.replicate_zero, List.cons_append, List.nil_append, List.append_nil, List.length_map, List.length_range, List.drop_succ_cons, List.drop_zero, List.zip_cons_cons, List.zip_nil_right, List.zip_nil_left, List.getElem?_cons_zero, List.getElem?_cons_succ, Option.join_some, Option.join_none, Option.map_some, Option.map_none, decide_true, decide_false, decide_not, Bool.not_true, Bool.not_false, Bool.not_not, Bool.true_and, Bool.false_and, Bool.and_true, Bool.and_false, true_and, and_true, false_and, and_false, not_true_eq_false, not_false_eq_true, if_true, if_false, reduceCtorEq, Option.some.injEq, and_self, mb_l, mb_r, Nat.reduceAdd, Nat.reducePow, Nat.reduceSub, Nat.reduceMul, Nat.reduceLT, Nat.reduceGT, Nat.reduceLeDiff, Nat.reduceEqDiff, Nat.reduceBEq, Nat.reduceBNe, Int.reduceAdd, Int.reduceSub, Int.reduceMul, Int.reduceNeg, Int.reduceDiv, Int.reduceMod, Int.reduceLT, Int.reduceLE, Int.reduceGT, Int.reduceGE, Int.reduceEq, Int.reduceNe, Int.reduceToNat, Int.reducePow, Int.reduceAbs, Int.reduceBEq, Int.reduceBNe, reduceIte, Nat.zero_add, Nat.sub_zero, Nat.add_zero, Int.natCast_one, Int.cast_ofNat_Int, fo, e]
  · simp (disch := first | assumption | omega | (refine okR_int ?_ ?_ <;> omega) | exact OkE.str | (refine okE_of ?_ ?_ <;> (simp only [okE_tup, okE_lst, okEs_c, okEs_nil, okEs_ints, okE_int, okE_bl, okE_non, okE_str, okEs_app, Bool.and_self, Bool.and_true] <;> decide +kernel))) only [↓w_c, ↓w_var, ↓w_mv, ↓wa_nil, ↓wa_vw, ↓wa_ev, ↓wf_nil, ↓wf_l, ↓wf_r, ↓w_ap, ↓wi_nil, ↓wi_r, ↓w_apF, ↓wb_b, ↓w_tb, ↓w_tru, ↓tr1, ↓tr_bl, ↓tr_int, ↓tr_non, ↓tr_lst, ↓tr_tup, ↓w_not, ↓w_and, ↓w_or, ↓w_yes, ↓w_ife, ↓w_bl, ↓w_andV, ↓w_orV, ↓w_notV, ↓wn_i, ↓w_int, ↓w_chain, ↓hk_int, ↓hk_0, ↓hk_2, ↓hk_l, ↓hd_nil, ↓hd_l, ↓hd_r, ↓w_call, ↓w_callio, ↓is_l, ↓is_r, ↓is_s, ↓mk_nil, ↓mk_r, ↓mk_l, ↓ib_n, ↓ib_s, ↓ib_none, ↓wfl_n, ↓wfl_r, ↓w_run, ↓iv_n, ↓iv_z, ↓iv_s, ↓w_next, ↓w_break, ↓w_cont, ↓w_never, ↓wx_n, ↓wx_r, ↓wx_b, ↓wx_c, ↓w_seq, ↓w_set, ↓w_expr, ↓w_ret, ↓w_ifs, ↓wm_nil, ↓wm_c, ↓sm_nil, ↓sm_c, ↓w_par, ↓bt_n, ↓bt_t, ↓bt_l, ↓bts_n, ↓bts_c, ↓w_tgt, ↓w_it, ↓w_itV, ↓w_itF, ↓w_str, ↓w_itP, ↓w_for, ↓w_lc, ↓w_mut, ↓w_store, ↓st1, wp_ok, wp_no, wp_ex, br_t, br_f, br_not, gv_z, gv_s, sv_z, sv_s, nk_int, nk_bl, nk_str, nk_tup, nk_ro, nk_non, nk_lt, nk_lf, nk_f, kk_0, kk_1, wpo_some, wpo_none, wpo_map, wpo_bind, o_add, o_adds, o_addl, o_addt, o_sub, o_mul, o_mull, o_fd, o_md, o_pw, o_ng, o_lt, o_le, o_gt, o_ge, o_abs, o_int, o_intb, o_is_ti, o_is_tb, o_is_ts, o_is_tt, o_is_tl, o_tup, o_lst, o_lenl, o_lent, o_lenr, o_lens, o_ixl, o_ixt, o_ixr, ixL_o, ixL_m1, gRepr_ok, gEq_ok, gNe_ok, eqD_int, eqD_bl, eqD_non, eqD_tup, eqD_lst, eqD_str, eqDs_nil, eqDs_c, eqDs_cn, eqDs_nc, eqDs_ints, o_eqS, o_neS, o_eqI, o_neI, o_eqB, o_neB, o_allB, o_anyB, o_sumI, o_sumM, o_allM, o_anyM, o_max2, o_min2, o_maxI, o_minI, o_tuple, o_tuplet, o_list, o_listt, o_rng1, o_rng2, o_append, o_pop, o_set, wk_l, wk_t, wk_r, wk_s, mu_l, mu_d, d_mut_l, d_mut_i, d_mut_b, d_mut_s, d_mut_t, d_mut_n, ixN_o, List.set_cons_zero, List.set_cons_succ, List.getLast?_concat, o_sumAI, o_sumAM, o_sumAt, o_sumAt2, o_maxA2, o_minA2, o_maxAI, o_minAI, o_maxAt, o_minAt, o_inSS, o_ninSS, o_ixs, o_join, o_isb, o_isn, o_notb, o_notn, in_int, in_non, in_tup, in_lst, in_str, in_bl, o_inI, o_inIt, o_ninI, o_ninIt, o_inS, o_inSt, o_lrg1, o_lrg2, o_trg1, o_popAtI, o_sortI, o_sortIt, o_extend, o_revL, o_zipl, o_zipt, o_rev, o_enum, wfp_nil, wfp_r, wfp_l, fo_n, fo_c, fo_b, fo_r, un_nil, un_c, re_nil, re_c, ov_nil, ov_c, kOk_0, kOk_1, kOk_2, kOk_n, o_minB2, o_maxB2, o_minBI, o_maxBI, o_minBt, o_maxBt, o_sortBI, o_sortBIt, o_dict1i, o_dict1s, o_dicK, o_dicT, nk_dt, nk_df, d_mut_dic, o_is_td, in_dic, o_is_tn, o_enumAl, o_enumAt, o_mulT, o_dT0, o_putT, nk_dT, mut_dT, List.map_cons, List.map_nil, List.length_cons, List.length_nil, List.replicate_succ, List.replicate_zero, List.cons_append, List.nil_append, List.append_nil, List.length_map, List.length_range, List.drop_succ_cons, List.drop_zero, List.zip_cons_cons, List.zip_nil_right, List.zip_nil_left, List.getElem?_cons_zero, List.getElem?_cons_succ, Option.join_some, Option.join_none, Option.map_some, Option.map_none, decide_true, decide_false, decide_not, Bool.not_true, Bool.not_false, Bool.not_not, Bool.true_and, Bool.false_and, Bool.and_true, Bool.and_false, true_and, and_true, false_and, and_false, not_true_eq_false, not_false_eq_true, if_true, if_false, reduceCtorEq, Option.some.injEq, and_self, mb_l, mb_r, Nat.reduceAdd, Nat.reducePow, Nat.reduceSub, Nat.reduceMul, Nat.reduceLT, Nat.reduceGT, Nat.reduceLeDiff, Nat.reduceEqDiff, Nat.reduceBEq, Nat.reduceBNe, Int.reduceAdd, Int.reduceSub, Int.reduceMul, Int.reduceNeg, Int.reduceDiv, Int.reduceMod, Int.reduceLT, Int.reduceLE, Int.reduceGT, Int.reduceGE, Int.reduceEq, Int.reduceNe, Int.reduceToNat, Int.reducePow, Int.reduceAbs, Int.reduceBEq, Int.reduceBNe, reduceIte, Nat.zero_add, Nat.sub_zero, Nat.add_zero, Int.natCast_one, Int.cast_ofNat_Int, fo, e])
theorem q_dot {w h x : Int} (h1 : Ok w) (h2 : Ok h) : F_dot_at [(.tup [.int w, .int h], 0), (.int 0, 0), (.int x, 0)] = .ok (.tup [.int (fo x w), .int (fo x h)]) none := wp_of (by
  have z : 0 + x = x := by omega
  simp (disch := first | assumption | omega | (refine okR_int ?_ ?_ <;> omega) | exact OkE.str | (refine okE_of ?_ ?_ <;> (simp only [okE_tup, okE_lst, okEs_c, okEs_nil, okEs_ints, okE_int, okE_bl, okE_non, okE_str, okEs_app, Bool.and_self, Bool.and_true] <;> decide +kernel))) only [↓w_c, ↓w_var, ↓w_mv, ↓wa_nil, ↓wa_vw, ↓wa_ev, ↓wf_nil, ↓wf_l, ↓wf_r, ↓w_ap, ↓wi_nil, ↓wi_r, ↓w_apF, ↓wb_b, ↓w_tb, ↓w_tru, ↓tr1, ↓tr_bl, ↓tr_int, ↓tr_non, ↓tr_lst, ↓tr_tup, ↓w_not, ↓w_and, ↓w_or, ↓w_yes, ↓w_ife, ↓w_bl, ↓w_andV, ↓w_orV, ↓w_notV, ↓wn_i, ↓w_int, ↓w_chain, ↓hk_int, ↓hk_0, ↓hk_2, ↓hk_l, ↓hd_nil, ↓hd_l, ↓hd_r, ↓w_call, ↓w_callio, ↓is_l, ↓is_r, ↓is_s, ↓mk_nil, ↓mk_r, ↓mk_l, ↓ib_n, ↓ib_s, ↓ib_none, ↓wfl_n, ↓wfl_r, ↓w_run, ↓iv_n, ↓iv_z, ↓iv_s, ↓w_next, ↓w_break, ↓w_cont, ↓w_never, ↓wx_n, ↓wx_r, ↓wx_b, ↓wx_c, ↓w_seq, ↓w_set, ↓w_expr, ↓w_ret, ↓w_ifs, ↓wm_nil, ↓wm_c, ↓sm_nil, ↓sm_c, ↓w_par, ↓bt_n, ↓bt_t, ↓bt_l, ↓bts_n, ↓bts_c, ↓w_tgt, ↓w_it, ↓w_itV, ↓w_itF, ↓w_str, ↓w_itP, ↓w_for, ↓w_lc, ↓w_mut, ↓w_store, ↓st1, wp_ok, wp_no, wp_ex, br_t, br_f, br_not, gv_z, gv_s, sv_z, sv_s, nk_int, nk_bl, nk_str, nk_tup, nk_ro, nk_non, nk_lt, nk_lf, nk_f, kk_0, kk_1, wpo_some, wpo_none, wpo_map, wpo_bind, o_add, o_adds, o_addl, o_addt, o_sub, o_mul, o_mull, o_fd, o_md, o_pw, o_ng, o_lt, o_le, o_gt, o_ge, o_abs, o_int, o_intb, o_is_ti, o_is_tb, o_is_ts, o_is_tt, o_is_tl, o_tup, o_lst, o_lenl, o_lent, o_lenr, o_lens, o_ixl, o_ixt, o_ixr, ixL_o, ixL_m1, gRepr_ok, gEq_ok, gNe_ok, eqD_int, eqD_bl, eqD_non, eqD_tup, eqD_lst, eqD_str, eqDs_nil, eqDs_c, eqDs_cn, eqDs_nc, eqDs_ints, o_eqS, o_neS, o_eqI, o_neI, o_eqB, o_neB, o_allB, o_anyB, o_sumI, o_sumM, o_allM, o_anyM, o_max2, o_min2, o_maxI, o_minI, o_tuple, o_tuplet, o_list, o_listt, o_rng1, o_rng2, o_append, o_pop, o_set, wk_l, wk_t, wk_r, wk_s, mu_l, mu_d, d_mut_l, d_mut_i, d_mut_b, d_mut_s, d_mut_t, d_mut_n, ixN_o, List.set_cons_zero, List.set_cons_succ, List.getLast?_concat, o_sumAI, o_sumAM, o_sumAt, o_sumAt2, o_maxA2, o_minA2, o_maxAI, o_minAI, o_maxAt, o_minAt, o_inSS, o_ninSS, o_ixs, o_join, o_isb, o_isn, o_notb, o_notn, in_int, in_non, in_tup, in_lst, in_str, in_bl, o_inI, o_inIt, o_ninI, o_ninIt, o_inS, o_inSt, o_lrg1, o_lrg2, o_trg1, o_popAtI, o_sortI, o_sortIt, o_extend, o_revL, o_zipl, o_zipt, o_rev, o_enum, wfp_nil, wfp_r, wfp_l, fo_n, fo_c, fo_b, fo_r, un_nil, un_c, re_nil, re_c, ov_nil, ov_c, kOk_0, kOk_1, kOk_2, kOk_n, o_minB2, o_maxB2, o_minBI, o_maxBI, o_minBt, o_maxBt, o_sortBI, o_sortBIt, o_dict1i, o_dict1s, o_dicK, o_dicT, nk_dt, nk_df, d_mut_dic, o_is_td, in_dic, o_is_tn, o_enumAl, o_enumAt, o_mulT, o_dT0, o_putT, nk_dT, mut_dT, List.map_cons, List.map_nil, List.length_cons, List.length_nil, List.replicate_succ, List.replicate_zero, List.cons_append, List.nil_append, List.append_nil, List.length_map, List.length_range, List.drop_succ_cons, List.drop_zero, List.zip_cons_cons, List.zip_nil_right, List.zip_nil_left, List.getElem?_cons_zero, List.getElem?_cons_succ, Option.join_some, Option.join_none, Option.map_some, Option.map_none, decide_true, decide_false, decide_not, Bool.not_true, Bool.not_false, Bool.not_not, Bool.true_and, Bool.false_and, Bool.and_true, Bool.and_false, true_and, and_true, false_and, and_false, not_true_eq_false, not_false_eq_true, if_true, if_false, reduceCtorEq, Option.some.injEq, and_self, mb_l, mb_r, Nat.reduceAdd, Nat.reducePow, Nat.reduceSub, Nat.reduceMul, Nat.reduceLT, Nat.reduceGT, Nat.reduceLeDiff, Nat.reduceEqDiff, Nat.reduceBEq, Nat.reduceBNe, Int.reduceAdd, Int.reduceSub, Int.reduceMul, Int.reduceNeg, Int.reduceDiv, Int.reduceMod, Int.reduceLT, Int.reduceLE, Int.reduceGT, Int.reduceGE, Int.reduceEq, Int.reduceNe, Int.reduceToNat, Int.reducePow, Int.reduceAbs, Int.reduceBEq, Int.reduceBNe, reduceIte, Nat.zero_add, Nat.sub_zero, Nat.add_zero, Int.natCast_one, Int.cast_ofNat_Int, F_dot_at, b_dot_at, z, q_folded])
theorem q_place {w h x : Int} (h1 : Ok w) (h2 : Ok h) (hx : 0 ≤ x ∧ x ≤ 10000) : F_place_at [(.tup [.int w, .int h], 0), (.int x, 0)] = .ok (.tup [.int (fo x w), .int (fo x h)]) none := wp_of (by
  simp (disch := first | assumption | omega | (refine okR_int ?_ ?_ <;> omega) | exact OkE.str | (refine okE_of ?_ ?_ <;> (simp only [okE_tup, okE_lst, okEs_c, okEs_nil, okEs_ints, okE_int, okE_bl, okE_non, okE_str, okEs_app, Bool.and_self, Bool.and_true] <;> decide +kernel))) only [↓w_c, ↓w_var, ↓w_mv, ↓wa_nil, ↓wa_vw, ↓wa_ev, ↓wf_nil, ↓wf_l, ↓wf_r, ↓w_ap, ↓wi_nil, ↓wi_r, ↓w_apF, ↓wb_b, ↓w_tb, ↓w_tru, ↓tr1, ↓tr_bl, ↓tr_int, ↓tr_non, ↓tr_lst, ↓tr_tup, ↓w_not, ↓w_and, ↓w_or, ↓w_yes, ↓w_ife, ↓w_bl, ↓w_andV, ↓w_orV, ↓w_notV, ↓wn_i, ↓w_int, ↓w_chain, ↓hk_int, ↓hk_0, ↓hk_2, ↓hk_l, ↓hd_nil, ↓hd_l, ↓hd_r, ↓w_call, ↓w_callio, ↓is_l, ↓is_r, ↓is_s, ↓mk_nil, ↓mk_r, ↓mk_l, ↓ib_n, ↓ib_s, ↓ib_none, ↓wfl_n, ↓wfl_r, ↓w_run, ↓iv_n, ↓iv_z, ↓iv_s, ↓w_next, ↓w_break, ↓w_cont, ↓w_never, ↓wx_n, ↓wx_r, ↓wx_b, ↓wx_c, ↓w_seq, ↓w_set, ↓w_expr, ↓w_ret, ↓w_ifs, ↓wm_nil, ↓wm_c, ↓sm_nil, ↓sm_c, ↓w_par, ↓bt_n, ↓bt_t, ↓bt_l, ↓bts_n, ↓bts_c, ↓w_tgt, ↓w_it, ↓w_itV, ↓w_itF, ↓w_str, ↓w_itP, ↓w_for, ↓w_lc, ↓w_mut, ↓w_store, ↓st1, wp_ok, wp_no, wp_ex, br_t, br_f, br_not, gv_z, gv_s, sv_z, sv_s, nk_int, nk_bl, nk_str, nk_tup, nk_ro, nk_non, nk_lt, nk_lf, nk_f, kk_0, kk_1, wpo_some, wpo_none, wpo_map, wpo_bind, o_add, o_adds, o_addl, o_addt, o_sub, o_mul, o_mull, o_fd, o_md, o_pw, o_ng, o_lt, o_le, o_gt, o_ge, o_abs, o_int, o_intb, o_is_ti, o_is_tb, o_is_ts, o_is_tt, o_is_tl, o_tup, o_lst, o_lenl, o_lent, o_lenr, o_lens, o_ixl, o_ixt, o_ixr, ixL_o, ixL_m1, gRepr_ok, gEq_ok, gNe_ok, eqD_int, eqD_bl, eqD_non, eqD_tup, eqD_lst, eqD_str, eqDs_nil, eqDs_c, eqDs_cn, eqDs_nc, eqDs_ints, o_eqS, o_neS, o_eqI, o_neI, o_eqB, o_neB, o_allB, o_anyB, o_sumI, o_sumM, o_allM, o_anyM, o_max2, o_min2, o_maxI, o_minI, o_tuple, o_tuplet, o_list, o_listt, o_rng1, o_rng2, o_append, o_pop, o_set, wk_l, wk_t, wk_r, wk_s, mu_l, mu_d, d_mut_l, d_mut_i, d_mut_b, d_mut_s, d_mut_t, d_mut_n, ixN_o, List.set_cons_zero, List.set_cons_succ, List.getLast?_concat, o_sumAI, o_sumAM, o_sumAt, o_sumAt2, o_maxA2, o_minA2, o_maxAI, o_minAI, o_maxAt, o_minAt, o_inSS, o_ninSS, o_ixs, o_join, o_isb, o_isn, o_notb, o_notn, in_int, in_non, in_tup, in_lst, in_str, in_bl, o_inI, o_inIt, o_ninI, o_ninIt, o_inS, o_inSt, o_lrg1, o_lrg2, o_trg1, o_popAtI, o_sortI, o_sortIt, o_extend, o_revL, o_zipl, o_zipt, o_rev, o_enum, wfp_nil, wfp_r, wfp_l, fo_n, fo_c, fo_b, fo_r, un_nil, un_c, re_nil, re_c, ov_nil, ov_c, kOk_0, kOk_1, kOk_2, kOk_n, o_minB2, o_maxB2, o_minBI, o_maxBI, o_minBt, o_maxBt, o_sortBI, o_sortBIt, o_dict1i, o_dict1s, o_dicK, o_dicT, nk_dt, nk_df, d_mut_dic, o_is_td, in_dic, o_is_tn, o_enumAl, o_enumAt, o_mulT, o_dT0, o_putT, nk_dT, mut_dT, List.map_cons, List.map_nil, List.length_cons, List.length_nil, List.replicate_succ, List.replicate_zero, List.cons_append, List.nil_append, List.append_nil, List.length_map, List.length_range, List.drop_succ_cons, List.drop_zero, List.zip_cons_cons, List.zip_nil_right, List.zip_nil_left, List.getElem?_cons_zero, List.getElem?_cons_succ, Option.join_some, Option.join_none, Option.map_some, Option.map_none, decide_true, decide_false, decide_not, Bool.not_true, Bool.not_false, Bool.not_not, Bool.true_and, Bool.false_and, Bool.and_true, Bool.and_false, true_and, and_true, false_and, and_false, not_true_eq_false, not_false_eq_true, if_true, if_false, reduceCtorEq, Option.some.injEq, and_self, mb_l, mb_r, Nat.reduceAdd, Nat.reducePow, Nat.reduceSub, Nat.reduceMul, Nat.reduceLT, Nat.reduceGT, Nat.reduceLeDiff, Nat.reduceEqDiff, Nat.reduceBEq, Nat.reduceBNe, Int.reduceAdd, Int.reduceSub, Int.reduceMul, Int.reduceNeg, Int.reduceDiv, Int.reduceMod, Int.reduceLT, Int.reduceLE, Int.reduceGT, Int.reduceGE, Int.reduceEq, Int.reduceNe, Int.reduceToNat, Int.reducePow, Int.reduceAbs, Int.reduceBEq, Int.reduceBNe, reduceIte, Nat.zero_add, Nat.sub_zero, Nat.add_zero, Int.natCast_one, Int.cast_ofNat_Int, F_place_at, b_place_at, q_box h1 h2, q_is_within, hx, q_dot h1 h2])
theorem q_meets {w h : Int} (h1 : Ok w) (h2 : Ok h) : F_meets_itself [(.tup [.int w, .int h], 0)] = .ok (.int ((w / gd w h - 1) * (h / gd w h - 1) / 2)) none := wp_of (by
  have g := gd_bd h1 h2
  have a1 : w / gd w h ≤ w := Int.ediv_le_self _ (by omega)
  have a2 : 0 ≤ w / gd w h := Int.ediv_nonneg (by omega) (by omega)
  have mb : Mb (w / gd w h - 1) (h / gd w h - 1) := by left; omega
  simp (disch := first | assumption | omega | (refine okR_int ?_ ?_ <;> omega) | exact OkE.str | (refine okE_of ?_ ?_ <;> (simp only [okE_tup, okE_lst, okEs_c, okEs_nil, okEs_ints, okE_int, okE_bl, okE_non, okE_str, okEs_app, Bool.and_self, Bool.and_true] <;> decide +kernel))) only [↓w_c, ↓w_var, ↓w_mv, ↓wa_nil, ↓wa_vw, ↓wa_ev, ↓wf_nil, ↓wf_l, ↓wf_r, ↓w_ap, ↓wi_nil, ↓wi_r, ↓w_apF, ↓wb_b, ↓w_tb, ↓w_tru, ↓tr1, ↓tr_bl, ↓tr_int, ↓tr_non, ↓tr_lst, ↓tr_tup, ↓w_not, ↓w_and, ↓w_or, ↓w_yes, ↓w_ife, ↓w_bl, ↓w_andV, ↓w_orV, ↓w_notV, ↓wn_i, ↓w_int, ↓w_chain, ↓hk_int, ↓hk_0, ↓hk_2, ↓hk_l, ↓hd_nil, ↓hd_l, ↓hd_r, ↓w_call, ↓w_callio, ↓is_l, ↓is_r, ↓is_s, ↓mk_nil, ↓mk_r, ↓mk_l, ↓ib_n, ↓ib_s, ↓ib_none, ↓wfl_n, ↓wfl_r, ↓w_run, ↓iv_n, ↓iv_z, ↓iv_s, ↓w_next, ↓w_break, ↓w_cont, ↓w_never, ↓wx_n, ↓wx_r, ↓wx_b, ↓wx_c, ↓w_seq, ↓w_set, ↓w_expr, ↓w_ret, ↓w_ifs, ↓wm_nil, ↓wm_c, ↓sm_nil, ↓sm_c, ↓w_par, ↓bt_n, ↓bt_t, ↓bt_l, ↓bts_n, ↓bts_c, ↓w_tgt, ↓w_it, ↓w_itV, ↓w_itF, ↓w_str, ↓w_itP, ↓w_for, ↓w_lc, ↓w_mut, ↓w_store, ↓st1, wp_ok, wp_no, wp_ex, br_t, br_f, br_not, gv_z, gv_s, sv_z, sv_s, nk_int, nk_bl, nk_str, nk_tup, nk_ro, nk_non, nk_lt, nk_lf, nk_f, kk_0, kk_1, wpo_some, wpo_none, wpo_map, wpo_bind, o_add, o_adds, o_addl, o_addt, o_sub, o_mul, o_mull, o_fd, o_md, o_pw, o_ng, o_lt, o_le, o_gt, o_ge, o_abs, o_int, o_intb, o_is_ti, o_is_tb, o_is_ts, o_is_tt, o_is_tl, o_tup, o_lst, o_lenl, o_lent, o_lenr, o_lens, o_ixl, o_ixt, o_ixr, ixL_o, ixL_m1, gRepr_ok, gEq_ok, gNe_ok, eqD_int, eqD_bl, eqD_non, eqD_tup, eqD_lst, eqD_str, eqDs_nil, eqDs_c, eqDs_cn, eqDs_nc, eqDs_ints, o_eqS, o_neS, o_eqI, o_neI, o_eqB, o_neB, o_allB, o_anyB, o_sumI, o_sumM, o_allM, o_anyM, o_max2, o_min2, o_maxI, o_minI, o_tuple, o_tuplet, o_list, o_listt, o_rng1, o_rng2, o_append, o_pop, o_set, wk_l, wk_t, wk_r, wk_s, mu_l, mu_d, d_mut_l, d_mut_i, d_mut_b, d_mut_s, d_mut_t, d_mut_n, ixN_o, List.set_cons_zero, List.set_cons_succ, List.getLast?_concat, o_sumAI, o_sumAM, o_sumAt, o_sumAt2, o_maxA2, o_minA2, o_maxAI, o_minAI, o_maxAt, o_minAt, o_inSS, o_ninSS, o_ixs, o_join, o_isb, o_isn, o_notb, o_notn, in_int, in_non, in_tup, in_lst, in_str, in_bl, o_inI, o_inIt, o_ninI, o_ninIt, o_inS, o_inSt, o_lrg1, o_lrg2, o_trg1, o_popAtI, o_sortI, o_sortIt, o_extend, o_revL, o_zipl, o_zipt, o_rev, o_enum, wfp_nil, wfp_r, wfp_l, fo_n, fo_c, fo_b, fo_r, un_nil, un_c, re_nil, re_c, ov_nil, ov_c, kOk_0, kOk_1, kOk_2, kOk_n, o_minB2, o_maxB2, o_minBI, o_maxBI, o_minBt, o_maxBt, o_sortBI, o_sortBIt, o_dict1i, o_dict1s, o_dicK, o_dicT, nk_dt, nk_df, d_mut_dic, o_is_td, in_dic, o_is_tn, o_enumAl, o_enumAt, o_mulT, o_dT0, o_putT, nk_dT, mut_dT, List.map_cons, List.map_nil, List.length_cons, List.length_nil, List.replicate_succ, List.replicate_zero, List.cons_append, List.nil_append, List.append_nil, List.length_map, List.length_range, List.drop_succ_cons, List.drop_zero, List.zip_cons_cons, List.zip_nil_right, List.zip_nil_left, List.getElem?_cons_zero, List.getElem?_cons_succ, Option.join_some, Option.join_none, Option.map_some, Option.map_none, decide_true, decide_false, decide_not, Bool.not_true, Bool.not_false, Bool.not_not, Bool.true_and, Bool.false_and, Bool.and_true, Bool.and_false, true_and, and_true, false_and, and_false, not_true_eq_false, not_false_eq_true, if_true, if_false, reduceCtorEq, Option.some.injEq, and_self, mb_l, mb_r, Nat.reduceAdd, Nat.reducePow, Nat.reduceSub, Nat.reduceMul, Nat.reduceLT, Nat.reduceGT, Nat.reduceLeDiff, Nat.reduceEqDiff, Nat.reduceBEq, Nat.reduceBNe, Int.reduceAdd, Int.reduceSub, Int.reduceMul, Int.reduceNeg, Int.reduceDiv, Int.reduceMod, Int.reduceLT, Int.reduceLE, Int.reduceGT, Int.reduceGE, Int.reduceEq, Int.reduceNe, Int.reduceToNat, Int.reducePow, Int.reduceAbs, Int.reduceBEq, Int.reduceBNe, reduceIte, Nat.zero_add, Nat.sub_zero, Nat.add_zero, Int.natCast_one, Int.cast_ofNat_Int, F_meets_itself, b_meets_itself, q_box h1 h2, q_divisor]
  omega)
theorem q_side {w h x y : Int} : F_is_side [(.tup [.int w, .int h], 0), (.tup [.int x, .int y], 0)] = .ok (.bl (decide (x = 0 ∨ x = w) || decide (y = 0 ∨ y = h))) none := wp_of (by
  have e1 := o_inIt (i := x) (ns := [0, w])
  have e2 := o_inIt (i := y) (ns := [0, h])
  simp only [List.map_cons, List.map_nil, List.mem_cons, List.not_mem_nil, or_false] at e1 e2
  simp (disch := first | assumption | omega | (refine okR_int ?_ ?_ <;> omega) | exact OkE.str | (refine okE_of ?_ ?_ <;> (simp only [okE_tup, okE_lst, okEs_c, okEs_nil, okEs_ints, okE_int, okE_bl, okE_non, okE_str, okEs_app, Bool.and_self, Bool.and_true] <;> decide +kernel))) only [↓w_c, ↓w_var, ↓w_mv, ↓wa_nil, ↓wa_vw, ↓wa_ev, ↓wf_nil, ↓wf_l, ↓wf_r, ↓w_ap, ↓wi_nil, ↓wi_r, ↓w_apF, ↓wb_b, ↓w_tb, ↓w_tru, ↓tr1, ↓tr_bl, ↓tr_int, ↓tr_non, ↓tr_lst, ↓tr_tup, ↓w_not, ↓w_and, ↓w_or, ↓w_yes, ↓w_ife, ↓w_bl, ↓w_andV, ↓w_orV, ↓w_notV, ↓wn_i, ↓w_int, ↓w_chain, ↓hk_int, ↓hk_0, ↓hk_2, ↓hk_l, ↓hd_nil, ↓hd_l, ↓hd_r, ↓w_call, ↓w_callio, ↓is_l, ↓is_r, ↓is_s, ↓mk_nil, ↓mk_r, ↓mk_l, ↓ib_n, ↓ib_s, ↓ib_none, ↓wfl_n, ↓wfl_r, ↓w_run, ↓iv_n, ↓iv_z, ↓iv_s, ↓w_next, ↓w_break, ↓w_cont, ↓w_never, ↓wx_n, ↓wx_r, ↓wx_b, ↓wx_c, ↓w_seq, ↓w_set, ↓w_expr, ↓w_ret, ↓w_ifs, ↓wm_nil, ↓wm_c, ↓sm_nil, ↓sm_c, ↓w_par, ↓bt_n, ↓bt_t, ↓bt_l, ↓bts_n, ↓bts_c, ↓w_tgt, ↓w_it, ↓w_itV, ↓w_itF, ↓w_str, ↓w_itP, ↓w_for, ↓w_lc, ↓w_mut, ↓w_store, ↓st1, wp_ok, wp_no, wp_ex, br_t, br_f, br_not, gv_z, gv_s, sv_z, sv_s, nk_int, nk_bl, nk_str, nk_tup, nk_ro, nk_non, nk_lt, nk_lf, nk_f, kk_0, kk_1, wpo_some, wpo_none, wpo_map, wpo_bind, o_add, o_adds, o_addl, o_addt, o_sub, o_mul, o_mull, o_fd, o_md, o_pw, o_ng, o_lt, o_le, o_gt, o_ge, o_abs, o_int, o_intb, o_is_ti, o_is_tb, o_is_ts, o_is_tt, o_is_tl, o_tup, o_lst, o_lenl, o_lent, o_lenr, o_lens, o_ixl, o_ixt, o_ixr, ixL_o, ixL_m1, gRepr_ok, gEq_ok, gNe_ok, eqD_int, eqD_bl, eqD_non, eqD_tup, eqD_lst, eqD_str, eqDs_nil, eqDs_c, eqDs_cn, eqDs_nc, eqDs_ints, o_eqS, o_neS, o_eqI, o_neI, o_eqB, o_neB, o_allB, o_anyB, o_sumI, o_sumM, o_allM, o_anyM, o_max2, o_min2, o_maxI, o_minI, o_tuple, o_tuplet, o_list, o_listt, o_rng1, o_rng2, o_append, o_pop, o_set, wk_l, wk_t, wk_r, wk_s, mu_l, mu_d, d_mut_l, d_mut_i, d_mut_b, d_mut_s, d_mut_t, d_mut_n, ixN_o, List.set_cons_zero, List.set_cons_succ, List.getLast?_concat, o_sumAI, o_sumAM, o_sumAt, o_sumAt2, o_maxA2, o_minA2, o_maxAI, o_minAI, o_maxAt, o_minAt, o_inSS, o_ninSS, o_ixs, o_join, o_isb, o_isn, o_notb, o_notn, in_int, in_non, in_tup, in_lst, in_str, in_bl, o_inI, o_inIt, o_ninI, o_ninIt, o_inS, o_inSt, o_lrg1, o_lrg2, o_trg1, o_popAtI, o_sortI, o_sortIt, o_extend, o_revL, o_zipl, o_zipt, o_rev, o_enum, wfp_nil, wfp_r, wfp_l, fo_n, fo_c, fo_b, fo_r, un_nil, un_c, re_nil, re_c, ov_nil, ov_c, kOk_0, kOk_1, kOk_2, kOk_n, o_minB2, o_maxB2, o_minBI, o_maxBI, o_minBt, o_maxBt, o_sortBI, o_sortBIt, o_dict1i, o_dict1s, o_dicK, o_dicT, nk_dt, nk_df, d_mut_dic, o_is_td, in_dic, o_is_tn, o_enumAl, o_enumAt, o_mulT, o_dT0, o_putT, nk_dT, mut_dT, List.map_cons, List.map_nil, List.length_cons, List.length_nil, List.replicate_succ, List.replicate_zero, List.cons_append, List.nil_append, List.append_nil, List.length_map, List.length_range, List.drop_succ_cons, List.drop_zero, List.zip_cons_cons, List.zip_nil_right, List.zip_nil_left, List.getElem?_cons_zero, List.getElem?_cons_succ, Option.join_some, Option.join_none, Option.map_some, Option.map_none, decide_true, decide_false, decide_not, Bool.not_true, Bool.not_false, Bool.not_not, Bool.true_and, Bool.false_and, Bool.and_true, Bool.and_false, true_and, and_true, false_and, and_false, not_true_eq_false, not_false_eq_true, if_true, if_false, reduceCtorEq, Option.some.injEq, and_self, mb_l, mb_r, Nat.reduceAdd, Nat.reducePow, Nat.reduceSub, Nat.reduceMul, Nat.reduceLT, Nat.reduceGT, Nat.reduceLeDiff, Nat.reduceEqDiff, Nat.reduceBEq, Nat.reduceBNe, Int.reduceAdd, Int.reduceSub, Int.reduceMul, Int.reduceNeg, Int.reduceDiv, Int.reduceMod, Int.reduceLT, Int.reduceLE, Int.reduceGT, Int.reduceGE, Int.reduceEq, Int.reduceNe, Int.reduceToNat, Int.reducePow, Int.reduceAbs, Int.reduceBEq, Int.reduceBNe, reduceIte, Nat.zero_add, Nat.sub_zero, Nat.add_zero, Int.natCast_one, Int.cast_ofNat_Int, F_is_side, b_is_side, e1]
  rcases c : decide (x = 0 ∨ x = w) with _ | _
  · simp (disch := first | assumption | omega | (refine okR_int ?_ ?_ <;> omega) | exact OkE.str | (refine okE_of ?_ ?_ <;> (simp only [okE_tup, okE_lst, okEs_c, okEs_nil, okEs_ints, okE_int, okE_bl, okE_non, okE_str, okEs_app, Bool.and_self, Bool.and_true] <;> decide +kernel))) only [↓w_c, ↓w_var, ↓w_mv, ↓wa_nil, ↓wa_vw, ↓wa_ev, ↓wf_nil, ↓wf_l, ↓wf_r, ↓w_ap, ↓wi_nil, ↓wi_r, ↓w_apF, ↓wb_b, ↓w_tb, ↓w_tru, ↓tr1, ↓tr_bl, ↓tr_int, ↓tr_non, ↓tr_lst, ↓tr_tup, ↓w_not, ↓w_and, ↓w_or, ↓w_yes, ↓w_ife, ↓w_bl, ↓w_andV, ↓w_orV, ↓w_notV, ↓wn_i, ↓w_int, ↓w_chain, ↓hk_int, ↓hk_0, ↓hk_2, ↓hk_l, ↓hd_nil, ↓hd_l, ↓hd_r, ↓w_call, ↓w_callio, ↓is_l, ↓is_r, ↓is_s, ↓mk_nil, ↓mk_r, ↓mk_l, ↓ib_n, ↓ib_s, ↓ib_none, ↓wfl_n, ↓wfl_r, ↓w_run, ↓iv_n, ↓iv_z, ↓iv_s, ↓w_next, ↓w_break, ↓w_cont, ↓w_never, ↓wx_n, ↓wx_r, ↓wx_b, ↓wx_c, ↓w_seq, ↓w_set, ↓w_expr, ↓w_ret, ↓w_ifs, ↓wm_nil, ↓wm_c, ↓sm_nil, ↓sm_c, ↓w_par, ↓bt_n, ↓bt_t, ↓bt_l, ↓bts_n, ↓bts_c, ↓w_tgt, ↓w_it, ↓w_itV, ↓w_itF, ↓w_str, ↓w_itP, ↓w_for, ↓w_lc, ↓w_mut, ↓w_store, ↓st1, wp_ok, wp_no, wp_ex, br_t, br_f, br_not, gv_z, gv_s, sv_z, sv_s, nk_int, nk_bl, nk_str, nk_tup, nk_ro, nk_non, nk_lt, nk_lf, nk_f, kk_0, kk_1, wpo_some, wpo_none, wpo_map, wpo_bind, o_add, o_adds, o_addl, o_addt, o_sub, o_mul, o_mull, o_fd, o_md, o_pw, o_ng, o_lt, o_le, o_gt, o_ge, o_abs, o_int, o_intb, o_is_ti, o_is_tb, o_is_ts, o_is_tt, o_is_tl, o_tup, o_lst, o_lenl, o_lent, o_lenr, o_lens, o_ixl, o_ixt, o_ixr, ixL_o, ixL_m1, gRepr_ok, gEq_ok, gNe_ok, eqD_int, eqD_bl, eqD_non, eqD_tup, eqD_lst, eqD_str, eqDs_nil, eqDs_c, eqDs_cn, eqDs_nc, eqDs_ints, o_eqS, o_neS, o_eqI, o_neI, o_eqB, o_neB, o_allB, o_anyB, o_sumI, o_sumM, o_allM, o_anyM, o_max2, o_min2, o_maxI, o_minI, o_tuple, o_tuplet, o_list, o_listt, o_rng1, o_rng2, o_append, o_pop, o_set, wk_l, wk_t, wk_r, wk_s, mu_l, mu_d, d_mut_l, d_mut_i, d_mut_b, d_mut_s, d_mut_t, d_mut_n, ixN_o, List.set_cons_zero, List.set_cons_succ, List.getLast?_concat, o_sumAI, o_sumAM, o_sumAt, o_sumAt2, o_maxA2, o_minA2, o_maxAI, o_minAI, o_maxAt, o_minAt, o_inSS, o_ninSS, o_ixs, o_join, o_isb, o_isn, o_notb, o_notn, in_int, in_non, in_tup, in_lst, in_str, in_bl, o_inI, o_inIt, o_ninI, o_ninIt, o_inS, o_inSt, o_lrg1, o_lrg2, o_trg1, o_popAtI, o_sortI, o_sortIt, o_extend, o_revL, o_zipl, o_zipt, o_rev, o_enum, wfp_nil, wfp_r, wfp_l, fo_n, fo_c, fo_b, fo_r, un_nil, un_c, re_nil, re_c, ov_nil, ov_c, kOk_0, kOk_1, kOk_2, kOk_n, o_minB2, o_maxB2, o_minBI, o_maxBI, o_minBt, o_maxBt, o_sortBI, o_sortBIt, o_dict1i, o_dict1s, o_dicK, o_dicT, nk_dt, nk_df, d_mut_dic, o_is_td, in_dic, o_is_tn, o_enumAl, o_enumAt, o_mulT, o_dT0, o_putT, nk_dT, mut_dT, List.map_cons, List.map_nil, List.length_cons, List.length_nil, List.replicate_succ, List.replicate_zero, List.cons_append, List.nil_append, List.append_nil, List.length_map, List.length_range, List.drop_succ_cons, List.drop_zero, List.zip_cons_cons, List.zip_nil_right, List.zip_nil_left, List.getElem?_cons_zero, List.getElem?_cons_succ, Option.join_some, Option.join_none, Option.map_some, Option.map_none, decide_true, decide_false, decide_not, Bool.not_true, Bool.not_false, Bool.not_not, Bool.true_and, Bool.false_and, Bool.and_true, Bool.and_false, true_and, and_true, false_and, and_false, not_true_eq_false, not_false_eq_true, if_true, if_false, reduceCtorEq, Option.some.injEq, and_self, mb_l, mb_r, Nat.reduceAdd, Nat.reducePow, Nat.reduceSub, Nat.reduceMul, Nat.reduceLT, Nat.reduceGT, Nat.reduceLeDiff, Nat.reduceEqDiff, Nat.reduceBEq, Nat.reduceBNe, Int.reduceAdd, Int.reduceSub, Int.reduceMul, Int.reduceNeg, Int.reduceDiv, Int.reduceMod, Int.reduceLT, Int.reduceLE, Int.reduceGT, Int.reduceGE, Int.reduceEq, Int.reduceNe, Int.reduceToNat, Int.reducePow, Int.reduceAbs, Int.reduceBEq, Int.reduceBNe, reduceIte, Nat.zero_add, Nat.sub_zero, Nat.add_zero, Int.natCast_one, Int.cast_ofNat_Int, e2]
    rfl
  · simp (disch := first | assumption | omega | (refine okR_int ?_ ?_ <;> omega) | exact OkE.str | (refine okE_of ?_ ?_ <;> (simp only [okE_tup, okE_lst, okEs_c, okEs_nil, okEs_ints, okE_int, okE_bl, okE_non, okE_str, okEs_app, Bool.and_self, Bool.and_true] <;> decide +kernel))) only [↓w_c, ↓w_var, ↓w_mv, ↓wa_nil, ↓wa_vw, ↓wa_ev, ↓wf_nil, ↓wf_l, ↓wf_r, ↓w_ap, ↓wi_nil, ↓wi_r, ↓w_apF, ↓wb_b, ↓w_tb, ↓w_tru, ↓tr1, ↓tr_bl, ↓tr_int, ↓tr_non, ↓tr_lst, ↓tr_tup, ↓w_not, ↓w_and, ↓w_or, ↓w_yes, ↓w_ife, ↓w_bl, ↓w_andV, ↓w_orV, ↓w_notV, ↓wn_i, ↓w_int, ↓w_chain, ↓hk_int, ↓hk_0, ↓hk_2, ↓hk_l, ↓hd_nil, ↓hd_l, ↓hd_r, ↓w_call, ↓w_callio, ↓is_l, ↓is_r, ↓is_s, ↓mk_nil, ↓mk_r, ↓mk_l, ↓ib_n, ↓ib_s, ↓ib_none, ↓wfl_n, ↓wfl_r, ↓w_run, ↓iv_n, ↓iv_z, ↓iv_s, ↓w_next, ↓w_break, ↓w_cont, ↓w_never, ↓wx_n, ↓wx_r, ↓wx_b, ↓wx_c, ↓w_seq, ↓w_set, ↓w_expr, ↓w_ret, ↓w_ifs, ↓wm_nil, ↓wm_c, ↓sm_nil, ↓sm_c, ↓w_par, ↓bt_n, ↓bt_t, ↓bt_l, ↓bts_n, ↓bts_c, ↓w_tgt, ↓w_it, ↓w_itV, ↓w_itF, ↓w_str, ↓w_itP, ↓w_for, ↓w_lc, ↓w_mut, ↓w_store, ↓st1, wp_ok, wp_no, wp_ex, br_t, br_f, br_not, gv_z, gv_s, sv_z, sv_s, nk_int, nk_bl, nk_str, nk_tup, nk_ro, nk_non, nk_lt, nk_lf, nk_f, kk_0, kk_1, wpo_some, wpo_none, wpo_map, wpo_bind, o_add, o_adds, o_addl, o_addt, o_sub, o_mul, o_mull, o_fd, o_md, o_pw, o_ng, o_lt, o_le, o_gt, o_ge, o_abs, o_int, o_intb, o_is_ti, o_is_tb, o_is_ts, o_is_tt, o_is_tl, o_tup, o_lst, o_lenl, o_lent, o_lenr, o_lens, o_ixl, o_ixt, o_ixr, ixL_o, ixL_m1, gRepr_ok, gEq_ok, gNe_ok, eqD_int, eqD_bl, eqD_non, eqD_tup, eqD_lst, eqD_str, eqDs_nil, eqDs_c, eqDs_cn, eqDs_nc, eqDs_ints, o_eqS, o_neS, o_eqI, o_neI, o_eqB, o_neB, o_allB, o_anyB, o_sumI, o_sumM, o_allM, o_anyM, o_max2, o_min2, o_maxI, o_minI, o_tuple, o_tuplet, o_list, o_listt, o_rng1, o_rng2, o_append, o_pop, o_set, wk_l, wk_t, wk_r, wk_s, mu_l, mu_d, d_mut_l, d_mut_i, d_mut_b, d_mut_s, d_mut_t, d_mut_n, ixN_o, List.set_cons_zero, List.set_cons_succ, List.getLast?_concat, o_sumAI, o_sumAM, o_sumAt, o_sumAt2, o_maxA2, o_minA2, o_maxAI, o_minAI, o_maxAt, o_minAt, o_inSS, o_ninSS, o_ixs, o_join, o_isb, o_isn, o_notb, o_notn, in_int, in_non, in_tup, in_lst, in_str, in_bl, o_inI, o_inIt, o_ninI, o_ninIt, o_inS, o_inSt, o_lrg1, o_lrg2, o_trg1, o_popAtI, o_sortI, o_sortIt, o_extend, o_revL, o_zipl, o_zipt, o_rev, o_enum, wfp_nil, wfp_r, wfp_l, fo_n, fo_c, fo_b, fo_r, un_nil, un_c, re_nil, re_c, ov_nil, ov_c, kOk_0, kOk_1, kOk_2, kOk_n, o_minB2, o_maxB2, o_minBI, o_maxBI, o_minBt, o_maxBt, o_sortBI, o_sortBIt, o_dict1i, o_dict1s, o_dicK, o_dicT, nk_dt, nk_df, d_mut_dic, o_is_td, in_dic, o_is_tn, o_enumAl, o_enumAt, o_mulT, o_dT0, o_putT, nk_dT, mut_dT, List.map_cons, List.map_nil, List.length_cons, List.length_nil, List.replicate_succ, List.replicate_zero, List.cons_append, List.nil_append, List.append_nil, List.length_map, List.length_range, List.drop_succ_cons, List.drop_zero, List.zip_cons_cons, List.zip_nil_right, List.zip_nil_left, List.getElem?_cons_zero, List.getElem?_cons_succ, Option.join_some, Option.join_none, Option.map_some, Option.map_none, decide_true, decide_false, decide_not, Bool.not_true, Bool.not_false, Bool.not_not, Bool.true_and, Bool.false_and, Bool.and_true, Bool.and_false, true_and, and_true, false_and, and_false, not_true_eq_false, not_false_eq_true, if_true, if_false, reduceCtorEq, Option.some.injEq, and_self, mb_l, mb_r, Nat.reduceAdd, Nat.reducePow, Nat.reduceSub, Nat.reduceMul, Nat.reduceLT, Nat.reduceGT, Nat.reduceLeDiff, Nat.reduceEqDiff, Nat.reduceBEq, Nat.reduceBNe, Int.reduceAdd, Int.reduceSub, Int.reduceMul, Int.reduceNeg, Int.reduceDiv, Int.reduceMod, Int.reduceLT, Int.reduceLE, Int.reduceGT, Int.reduceGE, Int.reduceEq, Int.reduceNe, Int.reduceToNat, Int.reducePow, Int.reduceAbs, Int.reduceBEq, Int.reduceBNe, reduceIte, Nat.zero_add, Nat.sub_zero, Nat.add_zero, Int.natCast_one, Int.cast_ofNat_Int]
    rfl)
def pt (w h : Int) (i : Nat) : Int × Int := (fo (1 + (i : Int)) w, fo (1 + (i : Int)) h)
def sd (w h : Int) (p : Int × Int) : Bool := decide (p.1 = 0 ∨ p.1 = w) || decide (p.2 = 0 ∨ p.2 = h)
def pts (w h : Int) : List (Int × Int) := ((List.range (ls w h - 1).toNat).map (pt w h)).filter (sd w h)
theorem q_touched {w h : Int} (h1 : Ok w) (h2 : Ok h) : F_touched [(.tup [.int w, .int h], 0)] = .ok (.tup (((pts w h).map e2).mergeSort leD)) none := wp_of (by
  have lb := ls_bd h1 h2
  simp (disch := first | assumption | omega | (refine okR_int ?_ ?_ <;> omega) | exact OkE.str | (refine okE_of ?_ ?_ <;> (simp only [okE_tup, okE_lst, okEs_c, okEs_nil, okEs_ints, okE_int, okE_bl, okE_non, okE_str, okEs_app, Bool.and_self, Bool.and_true] <;> decide +kernel))) only [↓w_c, ↓w_var, ↓w_mv, ↓wa_nil, ↓wa_vw, ↓wa_ev, ↓wf_nil, ↓wf_l, ↓wf_r, ↓w_ap, ↓wi_nil, ↓wi_r, ↓w_apF, ↓wb_b, ↓w_tb, ↓w_tru, ↓tr1, ↓tr_bl, ↓tr_int, ↓tr_non, ↓tr_lst, ↓tr_tup, ↓w_not, ↓w_and, ↓w_or, ↓w_yes, ↓w_ife, ↓w_bl, ↓w_andV, ↓w_orV, ↓w_notV, ↓wn_i, ↓w_int, ↓w_chain, ↓hk_int, ↓hk_0, ↓hk_2, ↓hk_l, ↓hd_nil, ↓hd_l, ↓hd_r, ↓w_call, ↓w_callio, ↓is_l, ↓is_r, ↓is_s, ↓mk_nil, ↓mk_r, ↓mk_l, ↓ib_n, ↓ib_s, ↓ib_none, ↓wfl_n, ↓wfl_r, ↓w_run, ↓iv_n, ↓iv_z, ↓iv_s, ↓w_next, ↓w_break, ↓w_cont, ↓w_never, ↓wx_n, ↓wx_r, ↓wx_b, ↓wx_c, ↓w_seq, ↓w_set, ↓w_expr, ↓w_ret, ↓w_ifs, ↓wm_nil, ↓wm_c, ↓sm_nil, ↓sm_c, ↓w_par, ↓bt_n, ↓bt_t, ↓bt_l, ↓bts_n, ↓bts_c, ↓w_tgt, ↓w_it, ↓w_itV, ↓w_itF, ↓w_str, ↓w_itP, ↓w_for, ↓w_lc, ↓w_mut, ↓w_store, ↓st1, wp_ok, wp_no, wp_ex, br_t, br_f, br_not, gv_z, gv_s, sv_z, sv_s, nk_int, nk_bl, nk_str, nk_tup, nk_ro, nk_non, nk_lt, nk_lf, nk_f, kk_0, kk_1, wpo_some, wpo_none, wpo_map, wpo_bind, o_add, o_adds, o_addl, o_addt, o_sub, o_mul, o_mull, o_fd, o_md, o_pw, o_ng, o_lt, o_le, o_gt, o_ge, o_abs, o_int, o_intb, o_is_ti, o_is_tb, o_is_ts, o_is_tt, o_is_tl, o_tup, o_lst, o_lenl, o_lent, o_lenr, o_lens, o_ixl, o_ixt, o_ixr, ixL_o, ixL_m1, gRepr_ok, gEq_ok, gNe_ok, eqD_int, eqD_bl, eqD_non, eqD_tup, eqD_lst, eqD_str, eqDs_nil, eqDs_c, eqDs_cn, eqDs_nc, eqDs_ints, o_eqS, o_neS, o_eqI, o_neI, o_eqB, o_neB, o_allB, o_anyB, o_sumI, o_sumM, o_allM, o_anyM, o_max2, o_min2, o_maxI, o_minI, o_tuple, o_tuplet, o_list, o_listt, o_rng1, o_rng2, o_append, o_pop, o_set, wk_l, wk_t, wk_r, wk_s, mu_l, mu_d, d_mut_l, d_mut_i, d_mut_b, d_mut_s, d_mut_t, d_mut_n, ixN_o, List.set_cons_zero, List.set_cons_succ, List.getLast?_concat, o_sumAI, o_sumAM, o_sumAt, o_sumAt2, o_maxA2, o_minA2, o_maxAI, o_minAI, o_maxAt, o_minAt, o_inSS, o_ninSS, o_ixs, o_join, o_isb, o_isn, o_notb, o_notn, in_int, in_non, in_tup, in_lst, in_str, in_bl, o_inI, o_inIt, o_ninI, o_ninIt, o_inS, o_inSt, o_lrg1, o_lrg2, o_trg1, o_popAtI, o_sortI, o_sortIt, o_extend, o_revL, o_zipl, o_zipt, o_rev, o_enum, wfp_nil, wfp_r, wfp_l, fo_n, fo_c, fo_b, fo_r, un_nil, un_c, re_nil, re_c, ov_nil, ov_c, kOk_0, kOk_1, kOk_2, kOk_n, o_minB2, o_maxB2, o_minBI, o_maxBI, o_minBt, o_maxBt, o_sortBI, o_sortBIt, o_dict1i, o_dict1s, o_dicK, o_dicT, nk_dt, nk_df, d_mut_dic, o_is_td, in_dic, o_is_tn, o_enumAl, o_enumAt, o_mulT, o_dT0, o_putT, nk_dT, mut_dT, List.map_cons, List.map_nil, List.length_cons, List.length_nil, List.replicate_succ, List.replicate_zero, List.cons_append, List.nil_append, List.append_nil, List.length_map, List.length_range, List.drop_succ_cons, List.drop_zero, List.zip_cons_cons, List.zip_nil_right, List.zip_nil_left, List.getElem?_cons_zero, List.getElem?_cons_succ, Option.join_some, Option.join_none, Option.map_some, Option.map_none, decide_true, decide_false, decide_not, Bool.not_true, Bool.not_false, Bool.not_not, Bool.true_and, Bool.false_and, Bool.and_true, Bool.and_false, true_and, and_true, false_and, and_false, not_true_eq_false, not_false_eq_true, if_true, if_false, reduceCtorEq, Option.some.injEq, and_self, mb_l, mb_r, Nat.reduceAdd, Nat.reducePow, Nat.reduceSub, Nat.reduceMul, Nat.reduceLT, Nat.reduceGT, Nat.reduceLeDiff, Nat.reduceEqDiff, Nat.reduceBEq, Nat.reduceBNe, Int.reduceAdd, Int.reduceSub, Int.reduceMul, Int.reduceNeg, Int.reduceDiv, Int.reduceMod, Int.reduceLT, Int.reduceLE, Int.reduceGT, Int.reduceGE, Int.reduceEq, Int.reduceNe, Int.reduceToNat, Int.reducePow, Int.reduceAbs, Int.reduceBEq, Int.reduceBNe, reduceIte, Nat.zero_add, Nat.sub_zero, Nat.add_zero, Int.natCast_one, Int.cast_ofNat_Int, F_touched, b_touched, q_box h1 h2, q_steps h1 h2]
  refine ⟨by omega, by omega, ?_⟩
  refine wp_lcM (g := fun i : Nat => e2 (pt w h i)) ?_ ?_
  · intro i _
    simp (disch := first | assumption | omega | (refine okR_int ?_ ?_ <;> omega) | exact OkE.str | (refine okE_of ?_ ?_ <;> (simp only [okE_tup, okE_lst, okEs_c, okEs_nil, okEs_ints, okE_int, okE_bl, okE_non, okE_str, okEs_app, Bool.and_self, Bool.and_true] <;> decide +kernel))) only [↓w_c, ↓w_var, ↓w_mv, ↓wa_nil, ↓wa_vw, ↓wa_ev, ↓wf_nil, ↓wf_l, ↓wf_r, ↓w_ap, ↓wi_nil, ↓wi_r, ↓w_apF, ↓wb_b, ↓w_tb, ↓w_tru, ↓tr1, ↓tr_bl, ↓tr_int, ↓tr_non, ↓tr_lst, ↓tr_tup, ↓w_not, ↓w_and, ↓w_or, ↓w_yes, ↓w_ife, ↓w_bl, ↓w_andV, ↓w_orV, ↓w_notV, ↓wn_i, ↓w_int, ↓w_chain, ↓hk_int, ↓hk_0, ↓hk_2, ↓hk_l, ↓hd_nil, ↓hd_l, ↓hd_r, ↓w_call, ↓w_callio, ↓is_l, ↓is_r, ↓is_s, ↓mk_nil, ↓mk_r, ↓mk_l, ↓ib_n, ↓ib_s, ↓ib_none, ↓wfl_n, ↓wfl_r, ↓w_run, ↓iv_n, ↓iv_z, ↓iv_s, ↓w_next, ↓w_break, ↓w_cont, ↓w_never, ↓wx_n, ↓wx_r, ↓wx_b, ↓wx_c, ↓w_seq, ↓w_set, ↓w_expr, ↓w_ret, ↓w_ifs, ↓wm_nil, ↓wm_c, ↓sm_nil, ↓sm_c, ↓w_par, ↓bt_n, ↓bt_t, ↓bt_l, ↓bts_n, ↓bts_c, ↓w_tgt, ↓w_it, ↓w_itV, ↓w_itF, ↓w_str, ↓w_itP, ↓w_for, ↓w_lc, ↓w_mut, ↓w_store, ↓st1, wp_ok, wp_no, wp_ex, br_t, br_f, br_not, gv_z, gv_s, sv_z, sv_s, nk_int, nk_bl, nk_str, nk_tup, nk_ro, nk_non, nk_lt, nk_lf, nk_f, kk_0, kk_1, wpo_some, wpo_none, wpo_map, wpo_bind, o_add, o_adds, o_addl, o_addt, o_sub, o_mul, o_mull, o_fd, o_md, o_pw, o_ng, o_lt, o_le, o_gt, o_ge, o_abs, o_int, o_intb, o_is_ti, o_is_tb, o_is_ts, o_is_tt, o_is_tl, o_tup, o_lst, o_lenl, o_lent, o_lenr, o_lens, o_ixl, o_ixt, o_ixr, ixL_o, ixL_m1, gRepr_ok, gEq_ok, gNe_ok, eqD_int, eqD_bl, eqD_non, eqD_tup, eqD_lst, eqD_str, eqDs_nil, eqDs_c, eqDs_cn, eqDs_nc, eqDs_ints, o_eqS, o_neS, o_eqI, o_neI, o_eqB, o_neB, o_allB, o_anyB, o_sumI, o_sumM, o_allM, o_anyM, o_max2, o_min2, o_maxI, o_minI, o_tuple, o_tuplet, o_list, o_listt, o_rng1, o_rng2, o_append, o_pop, o_set, wk_l, wk_t, wk_r, wk_s, mu_l, mu_d, d_mut_l, d_mut_i, d_mut_b, d_mut_s, d_mut_t, d_mut_n, ixN_o, List.set_cons_zero, List.set_cons_succ, List.getLast?_concat, o_sumAI, o_sumAM, o_sumAt, o_sumAt2, o_maxA2, o_minA2, o_maxAI, o_minAI, o_maxAt, o_minAt, o_inSS, o_ninSS, o_ixs, o_join, o_isb, o_isn, o_notb, o_notn, in_int, in_non, in_tup, in_lst, in_str, in_bl, o_inI, o_inIt, o_ninI, o_ninIt, o_inS, o_inSt, o_lrg1, o_lrg2, o_trg1, o_popAtI, o_sortI, o_sortIt, o_extend, o_revL, o_zipl, o_zipt, o_rev, o_enum, wfp_nil, wfp_r, wfp_l, fo_n, fo_c, fo_b, fo_r, un_nil, un_c, re_nil, re_c, ov_nil, ov_c, kOk_0, kOk_1, kOk_2, kOk_n, o_minB2, o_maxB2, o_minBI, o_maxBI, o_minBt, o_maxBt, o_sortBI, o_sortBIt, o_dict1i, o_dict1s, o_dicK, o_dicT, nk_dt, nk_df, d_mut_dic, o_is_td, in_dic, o_is_tn, o_enumAl, o_enumAt, o_mulT, o_dT0, o_putT, nk_dT, mut_dT, List.map_cons, List.map_nil, List.length_cons, List.length_nil, List.replicate_succ, List.replicate_zero, List.cons_append, List.nil_append, List.append_nil, List.length_map, List.length_range, List.drop_succ_cons, List.drop_zero, List.zip_cons_cons, List.zip_nil_right, List.zip_nil_left, List.getElem?_cons_zero, List.getElem?_cons_succ, Option.join_some, Option.join_none, Option.map_some, Option.map_none, decide_true, decide_false, decide_not, Bool.not_true, Bool.not_false, Bool.not_not, Bool.true_and, Bool.false_and, Bool.and_true, Bool.and_false, true_and, and_true, false_and, and_false, not_true_eq_false, not_false_eq_true, if_true, if_false, reduceCtorEq, Option.some.injEq, and_self, mb_l, mb_r, Nat.reduceAdd, Nat.reducePow, Nat.reduceSub, Nat.reduceMul, Nat.reduceLT, Nat.reduceGT, Nat.reduceLeDiff, Nat.reduceEqDiff, Nat.reduceBEq, Nat.reduceBNe, Int.reduceAdd, Int.reduceSub, Int.reduceMul, Int.reduceNeg, Int.reduceDiv, Int.reduceMod, Int.reduceLT, Int.reduceLE, Int.reduceGT, Int.reduceGE, Int.reduceEq, Int.reduceNe, Int.reduceToNat, Int.reducePow, Int.reduceAbs, Int.reduceBEq, Int.reduceBNe, reduceIte, Nat.zero_add, Nat.sub_zero, Nat.add_zero, Int.natCast_one, Int.cast_ofNat_Int, q_dot h1 h2, e2, pt]
  have em : (List.range (ls w h - 1).toNat).map (fun i : Nat => e2 (pt w h i)) = ((List.range (ls w h - 1).toNat).map (pt w h)).map e2 := by rw [List.map_map]; rfl
  rw [em]
  simp (disch := first | assumption | omega | (refine okR_int ?_ ?_ <;> omega) | exact OkE.str | (refine okE_of ?_ ?_ <;> (simp only [okE_tup, okE_lst, okEs_c, okEs_nil, okEs_ints, okE_int, okE_bl, okE_non, okE_str, okEs_app, Bool.and_self, Bool.and_true] <;> decide +kernel))) only [↓w_c, ↓w_var, ↓w_mv, ↓wa_nil, ↓wa_vw, ↓wa_ev, ↓wf_nil, ↓wf_l, ↓wf_r, ↓w_ap, ↓wi_nil, ↓wi_r, ↓w_apF, ↓wb_b, ↓w_tb, ↓w_tru, ↓tr1, ↓tr_bl, ↓tr_int, ↓tr_non, ↓tr_lst, ↓tr_tup, ↓w_not, ↓w_and, ↓w_or, ↓w_yes, ↓w_ife, ↓w_bl, ↓w_andV, ↓w_orV, ↓w_notV, ↓wn_i, ↓w_int, ↓w_chain, ↓hk_int, ↓hk_0, ↓hk_2, ↓hk_l, ↓hd_nil, ↓hd_l, ↓hd_r, ↓w_call, ↓w_callio, ↓is_l, ↓is_r, ↓is_s, ↓mk_nil, ↓mk_r, ↓mk_l, ↓ib_n, ↓ib_s, ↓ib_none, ↓wfl_n, ↓wfl_r, ↓w_run, ↓iv_n, ↓iv_z, ↓iv_s, ↓w_next, ↓w_break, ↓w_cont, ↓w_never, ↓wx_n, ↓wx_r, ↓wx_b, ↓wx_c, ↓w_seq, ↓w_set, ↓w_expr, ↓w_ret, ↓w_ifs, ↓wm_nil, ↓wm_c, ↓sm_nil, ↓sm_c, ↓w_par, ↓bt_n, ↓bt_t, ↓bt_l, ↓bts_n, ↓bts_c, ↓w_tgt, ↓w_it, ↓w_itV, ↓w_itF, ↓w_str, ↓w_itP, ↓w_for, ↓w_lc, ↓w_mut, ↓w_store, ↓st1, wp_ok, wp_no, wp_ex, br_t, br_f, br_not, gv_z, gv_s, sv_z, sv_s, nk_int, nk_bl, nk_str, nk_tup, nk_ro, nk_non, nk_lt, nk_lf, nk_f, kk_0, kk_1, wpo_some, wpo_none, wpo_map, wpo_bind, o_add, o_adds, o_addl, o_addt, o_sub, o_mul, o_mull, o_fd, o_md, o_pw, o_ng, o_lt, o_le, o_gt, o_ge, o_abs, o_int, o_intb, o_is_ti, o_is_tb, o_is_ts, o_is_tt, o_is_tl, o_tup, o_lst, o_lenl, o_lent, o_lenr, o_lens, o_ixl, o_ixt, o_ixr, ixL_o, ixL_m1, gRepr_ok, gEq_ok, gNe_ok, eqD_int, eqD_bl, eqD_non, eqD_tup, eqD_lst, eqD_str, eqDs_nil, eqDs_c, eqDs_cn, eqDs_nc, eqDs_ints, o_eqS, o_neS, o_eqI, o_neI, o_eqB, o_neB, o_allB, o_anyB, o_sumI, o_sumM, o_allM, o_anyM, o_max2, o_min2, o_maxI, o_minI, o_tuple, o_tuplet, o_list, o_listt, o_rng1, o_rng2, o_append, o_pop, o_set, wk_l, wk_t, wk_r, wk_s, mu_l, mu_d, d_mut_l, d_mut_i, d_mut_b, d_mut_s, d_mut_t, d_mut_n, ixN_o, List.set_cons_zero, List.set_cons_succ, List.getLast?_concat, o_sumAI, o_sumAM, o_sumAt, o_sumAt2, o_maxA2, o_minA2, o_maxAI, o_minAI, o_maxAt, o_minAt, o_inSS, o_ninSS, o_ixs, o_join, o_isb, o_isn, o_notb, o_notn, in_int, in_non, in_tup, in_lst, in_str, in_bl, o_inI, o_inIt, o_ninI, o_ninIt, o_inS, o_inSt, o_lrg1, o_lrg2, o_trg1, o_popAtI, o_sortI, o_sortIt, o_extend, o_revL, o_zipl, o_zipt, o_rev, o_enum, wfp_nil, wfp_r, wfp_l, fo_n, fo_c, fo_b, fo_r, un_nil, un_c, re_nil, re_c, ov_nil, ov_c, kOk_0, kOk_1, kOk_2, kOk_n, o_minB2, o_maxB2, o_minBI, o_maxBI, o_minBt, o_maxBt, o_sortBI, o_sortBIt, o_dict1i, o_dict1s, o_dicK, o_dicT, nk_dt, nk_df, d_mut_dic, o_is_td, in_dic, o_is_tn, o_enumAl, o_enumAt, o_mulT, o_dT0, o_putT, nk_dT, mut_dT, List.map_cons, List.map_nil, List.length_cons, List.length_nil, List.replicate_succ, List.replicate_zero, List.cons_append, List.nil_append, List.append_nil, List.length_map, List.length_range, List.drop_succ_cons, List.drop_zero, List.zip_cons_cons, List.zip_nil_right, List.zip_nil_left, List.getElem?_cons_zero, List.getElem?_cons_succ, Option.join_some, Option.join_none, Option.map_some, Option.map_none, decide_true, decide_false, decide_not, Bool.not_true, Bool.not_false, Bool.not_not, Bool.true_and, Bool.false_and, Bool.and_true, Bool.and_false, true_and, and_true, false_and, and_false, not_true_eq_false, not_false_eq_true, if_true, if_false, reduceCtorEq, Option.some.injEq, and_self, mb_l, mb_r, Nat.reduceAdd, Nat.reducePow, Nat.reduceSub, Nat.reduceMul, Nat.reduceLT, Nat.reduceGT, Nat.reduceLeDiff, Nat.reduceEqDiff, Nat.reduceBEq, Nat.reduceBNe, Int.reduceAdd, Int.reduceSub, Int.reduceMul, Int.reduceNeg, Int.reduceDiv, Int.reduceMod, Int.reduceLT, Int.reduceLE, Int.reduceGT, Int.reduceGE, Int.reduceEq, Int.reduceNe, Int.reduceToNat, Int.reducePow, Int.reduceAbs, Int.reduceBEq, Int.reduceBNe, reduceIte, Nat.zero_add, Nat.sub_zero, Nat.add_zero, Int.natCast_one, Int.cast_ofNat_Int]
  refine ⟨by omega, ?_⟩
  refine wp_lcF (f := e2) (sd w h) e2 ?_ ?_
  · intro p _
    simp (disch := first | assumption | omega | (refine okR_int ?_ ?_ <;> omega) | exact OkE.str | (refine okE_of ?_ ?_ <;> (simp only [okE_tup, okE_lst, okEs_c, okEs_nil, okEs_ints, okE_int, okE_bl, okE_non, okE_str, okEs_app, Bool.and_self, Bool.and_true] <;> decide +kernel))) only [↓w_c, ↓w_var, ↓w_mv, ↓wa_nil, ↓wa_vw, ↓wa_ev, ↓wf_nil, ↓wf_l, ↓wf_r, ↓w_ap, ↓wi_nil, ↓wi_r, ↓w_apF, ↓wb_b, ↓w_tb, ↓w_tru, ↓tr1, ↓tr_bl, ↓tr_int, ↓tr_non, ↓tr_lst, ↓tr_tup, ↓w_not, ↓w_and, ↓w_or, ↓w_yes, ↓w_ife, ↓w_bl, ↓w_andV, ↓w_orV, ↓w_notV, ↓wn_i, ↓w_int, ↓w_chain, ↓hk_int, ↓hk_0, ↓hk_2, ↓hk_l, ↓hd_nil, ↓hd_l, ↓hd_r, ↓w_call, ↓w_callio, ↓is_l, ↓is_r, ↓is_s, ↓mk_nil, ↓mk_r, ↓mk_l, ↓ib_n, ↓ib_s, ↓ib_none, ↓wfl_n, ↓wfl_r, ↓w_run, ↓iv_n, ↓iv_z, ↓iv_s, ↓w_next, ↓w_break, ↓w_cont, ↓w_never, ↓wx_n, ↓wx_r, ↓wx_b, ↓wx_c, ↓w_seq, ↓w_set, ↓w_expr, ↓w_ret, ↓w_ifs, ↓wm_nil, ↓wm_c, ↓sm_nil, ↓sm_c, ↓w_par, ↓bt_n, ↓bt_t, ↓bt_l, ↓bts_n, ↓bts_c, ↓w_tgt, ↓w_it, ↓w_itV, ↓w_itF, ↓w_str, ↓w_itP, ↓w_for, ↓w_lc, ↓w_mut, ↓w_store, ↓st1, wp_ok, wp_no, wp_ex, br_t, br_f, br_not, gv_z, gv_s, sv_z, sv_s, nk_int, nk_bl, nk_str, nk_tup, nk_ro, nk_non, nk_lt, nk_lf, nk_f, kk_0, kk_1, wpo_some, wpo_none, wpo_map, wpo_bind, o_add, o_adds, o_addl, o_addt, o_sub, o_mul, o_mull, o_fd, o_md, o_pw, o_ng, o_lt, o_le, o_gt, o_ge, o_abs, o_int, o_intb, o_is_ti, o_is_tb, o_is_ts, o_is_tt, o_is_tl, o_tup, o_lst, o_lenl, o_lent, o_lenr, o_lens, o_ixl, o_ixt, o_ixr, ixL_o, ixL_m1, gRepr_ok, gEq_ok, gNe_ok, eqD_int, eqD_bl, eqD_non, eqD_tup, eqD_lst, eqD_str, eqDs_nil, eqDs_c, eqDs_cn, eqDs_nc, eqDs_ints, o_eqS, o_neS, o_eqI, o_neI, o_eqB, o_neB, o_allB, o_anyB, o_sumI, o_sumM, o_allM, o_anyM, o_max2, o_min2, o_maxI, o_minI, o_tuple, o_tuplet, o_list, o_listt, o_rng1, o_rng2, o_append, o_pop, o_set, wk_l, wk_t, wk_r, wk_s, mu_l, mu_d, d_mut_l, d_mut_i, d_mut_b, d_mut_s, d_mut_t, d_mut_n, ixN_o, List.set_cons_zero, List.set_cons_succ, List.getLast?_concat, o_sumAI, o_sumAM, o_sumAt, o_sumAt2, o_maxA2, o_minA2, o_maxAI, o_minAI, o_maxAt, o_minAt, o_inSS, o_ninSS, o_ixs, o_join, o_isb, o_isn, o_notb, o_notn, in_int, in_non, in_tup, in_lst, in_str, in_bl, o_inI, o_inIt, o_ninI, o_ninIt, o_inS, o_inSt, o_lrg1, o_lrg2, o_trg1, o_popAtI, o_sortI, o_sortIt, o_extend, o_revL, o_zipl, o_zipt, o_rev, o_enum, wfp_nil, wfp_r, wfp_l, fo_n, fo_c, fo_b, fo_r, un_nil, un_c, re_nil, re_c, ov_nil, ov_c, kOk_0, kOk_1, kOk_2, kOk_n, o_minB2, o_maxB2, o_minBI, o_maxBI, o_minBt, o_maxBt, o_sortBI, o_sortBIt, o_dict1i, o_dict1s, o_dicK, o_dicT, nk_dt, nk_df, d_mut_dic, o_is_td, in_dic, o_is_tn, o_enumAl, o_enumAt, o_mulT, o_dT0, o_putT, nk_dT, mut_dT, List.map_cons, List.map_nil, List.length_cons, List.length_nil, List.replicate_succ, List.replicate_zero, List.cons_append, List.nil_append, List.append_nil, List.length_map, List.length_range, List.drop_succ_cons, List.drop_zero, List.zip_cons_cons, List.zip_nil_right, List.zip_nil_left, List.getElem?_cons_zero, List.getElem?_cons_succ, Option.join_some, Option.join_none, Option.map_some, Option.map_none, decide_true, decide_false, decide_not, Bool.not_true, Bool.not_false, Bool.not_not, Bool.true_and, Bool.false_and, Bool.and_true, Bool.and_false, true_and, and_true, false_and, and_false, not_true_eq_false, not_false_eq_true, if_true, if_false, reduceCtorEq, Option.some.injEq, and_self, mb_l, mb_r, Nat.reduceAdd, Nat.reducePow, Nat.reduceSub, Nat.reduceMul, Nat.reduceLT, Nat.reduceGT, Nat.reduceLeDiff, Nat.reduceEqDiff, Nat.reduceBEq, Nat.reduceBNe, Int.reduceAdd, Int.reduceSub, Int.reduceMul, Int.reduceNeg, Int.reduceDiv, Int.reduceMod, Int.reduceLT, Int.reduceLE, Int.reduceGT, Int.reduceGE, Int.reduceEq, Int.reduceNe, Int.reduceToNat, Int.reducePow, Int.reduceAbs, Int.reduceBEq, Int.reduceBNe, reduceIte, Nat.zero_add, Nat.sub_zero, Nat.add_zero, Int.natCast_one, Int.cast_ofNat_Int, e2, q_side, sd]
    rcases c : (decide (p.1 = 0 ∨ p.1 = w) || decide (p.2 = 0 ∨ p.2 = h)) with _ | _
    · simp (disch := first | assumption | omega | (refine okR_int ?_ ?_ <;> omega) | exact OkE.str | (refine okE_of ?_ ?_ <;> (simp only [okE_tup, okE_lst, okEs_c, okEs_nil, okEs_ints, okE_int, okE_bl, okE_non, okE_str, okEs_app, Bool.and_self, Bool.and_true] <;> decide +kernel))) only [↓w_c, ↓w_var, ↓w_mv, ↓wa_nil, ↓wa_vw, ↓wa_ev, ↓wf_nil, ↓wf_l, ↓wf_r, ↓w_ap, ↓wi_nil, ↓wi_r, ↓w_apF, ↓wb_b, ↓w_tb, ↓w_tru, ↓tr1, ↓tr_bl, ↓tr_int, ↓tr_non, ↓tr_lst, ↓tr_tup, ↓w_not, ↓w_and, ↓w_or, ↓w_yes, ↓w_ife, ↓w_bl, ↓w_andV, ↓w_orV, ↓w_notV, ↓wn_i, ↓w_int, ↓w_chain, ↓hk_int, ↓hk_0, ↓hk_2, ↓hk_l, ↓hd_nil, ↓hd_l, ↓hd_r, ↓w_call, ↓w_callio, ↓is_l, ↓is_r, ↓is_s, ↓mk_nil, ↓mk_r, ↓mk_l, ↓ib_n, ↓ib_s, ↓ib_none, ↓wfl_n, ↓wfl_r, ↓w_run, ↓iv_n, ↓iv_z, ↓iv_s, ↓w_next, ↓w_break, ↓w_cont, ↓w_never, ↓wx_n, ↓wx_r, ↓wx_b, ↓wx_c, ↓w_seq, ↓w_set, ↓w_expr, ↓w_ret, ↓w_ifs, ↓wm_nil, ↓wm_c, ↓sm_nil, ↓sm_c, ↓w_par, ↓bt_n, ↓bt_t, ↓bt_l, ↓bts_n, ↓bts_c, ↓w_tgt, ↓w_it, ↓w_itV, ↓w_itF, ↓w_str, ↓w_itP, ↓w_for, ↓w_lc, ↓w_mut, ↓w_store, ↓st1, wp_ok, wp_no, wp_ex, br_t, br_f, br_not, gv_z, gv_s, sv_z, sv_s, nk_int, nk_bl, nk_str, nk_tup, nk_ro, nk_non, nk_lt, nk_lf, nk_f, kk_0, kk_1, wpo_some, wpo_none, wpo_map, wpo_bind, o_add, o_adds, o_addl, o_addt, o_sub, o_mul, o_mull, o_fd, o_md, o_pw, o_ng, o_lt, o_le, o_gt, o_ge, o_abs, o_int, o_intb, o_is_ti, o_is_tb, o_is_ts, o_is_tt, o_is_tl, o_tup, o_lst, o_lenl, o_lent, o_lenr, o_lens, o_ixl, o_ixt, o_ixr, ixL_o, ixL_m1, gRepr_ok, gEq_ok, gNe_ok, eqD_int, eqD_bl, eqD_non, eqD_tup, eqD_lst, eqD_str, eqDs_nil, eqDs_c, eqDs_cn, eqDs_nc, eqDs_ints, o_eqS, o_neS, o_eqI, o_neI, o_eqB, o_neB, o_allB, o_anyB, o_sumI, o_sumM, o_allM, o_anyM, o_max2, o_min2, o_maxI, o_minI, o_tuple, o_tuplet, o_list, o_listt, o_rng1, o_rng2, o_append, o_pop, o_set, wk_l, wk_t, wk_r, wk_s, mu_l, mu_d, d_mut_l, d_mut_i, d_mut_b, d_mut_s, d_mut_t, d_mut_n, ixN_o, List.set_cons_zero, List.set_cons_succ, List.getLast?_concat, o_sumAI, o_sumAM, o_sumAt, o_sumAt2, o_maxA2, o_minA2, o_maxAI, o_minAI, o_maxAt, o_minAt, o_inSS, o_ninSS, o_ixs, o_join, o_isb, o_isn, o_notb, o_notn, in_int, in_non, in_tup, in_lst, in_str, in_bl, o_inI, o_inIt, o_ninI, o_ninIt, o_inS, o_inSt, o_lrg1, o_lrg2, o_trg1, o_popAtI, o_sortI, o_sortIt, o_extend, o_revL, o_zipl, o_zipt, o_rev, o_enum, wfp_nil, wfp_r, wfp_l, fo_n, fo_c, fo_b, fo_r, un_nil, un_c, re_nil, re_c, ov_nil, ov_c, kOk_0, kOk_1, kOk_2, kOk_n, o_minB2, o_maxB2, o_minBI, o_maxBI, o_minBt, o_maxBt, o_sortBI, o_sortBIt, o_dict1i, o_dict1s, o_dicK, o_dicT, nk_dt, nk_df, d_mut_dic, o_is_td, in_dic, o_is_tn, o_enumAl, o_enumAt, o_mulT, o_dT0, o_putT, nk_dT, mut_dT, List.map_cons, List.map_nil, List.length_cons, List.length_nil, List.replicate_succ, List.replicate_zero, List.cons_append, List.nil_append, List.append_nil, List.length_map, List.length_range, List.drop_succ_cons, List.drop_zero, List.zip_cons_cons, List.zip_nil_right, List.zip_nil_left, List.getElem?_cons_zero, List.getElem?_cons_succ, Option.join_some, Option.join_none, Option.map_some, Option.map_none, decide_true, decide_false, decide_not, Bool.not_true, Bool.not_false, Bool.not_not, Bool.true_and, Bool.false_and, Bool.and_true, Bool.and_false, true_and, and_true, false_and, and_false, not_true_eq_false, not_false_eq_true, if_true, if_false, reduceCtorEq, Option.some.injEq, and_self, mb_l, mb_r, Nat.reduceAdd, Nat.reducePow, Nat.reduceSub, Nat.reduceMul, Nat.reduceLT, Nat.reduceGT, Nat.reduceLeDiff, Nat.reduceEqDiff, Nat.reduceBEq, Nat.reduceBNe, Int.reduceAdd, Int.reduceSub, Int.reduceMul, Int.reduceNeg, Int.reduceDiv, Int.reduceMod, Int.reduceLT, Int.reduceLE, Int.reduceGT, Int.reduceGE, Int.reduceEq, Int.reduceNe, Int.reduceToNat, Int.reducePow, Int.reduceAbs, Int.reduceBEq, Int.reduceBNe, reduceIte, Nat.zero_add, Nat.sub_zero, Nat.add_zero, Int.natCast_one, Int.cast_ofNat_Int]
    · simp (disch := first | assumption | omega | (refine okR_int ?_ ?_ <;> omega) | exact OkE.str | (refine okE_of ?_ ?_ <;> (simp only [okE_tup, okE_lst, okEs_c, okEs_nil, okEs_ints, okE_int, okE_bl, okE_non, okE_str, okEs_app, Bool.and_self, Bool.and_true] <;> decide +kernel))) only [↓w_c, ↓w_var, ↓w_mv, ↓wa_nil, ↓wa_vw, ↓wa_ev, ↓wf_nil, ↓wf_l, ↓wf_r, ↓w_ap, ↓wi_nil, ↓wi_r, ↓w_apF, ↓wb_b, ↓w_tb, ↓w_tru, ↓tr1, ↓tr_bl, ↓tr_int, ↓tr_non, ↓tr_lst, ↓tr_tup, ↓w_not, ↓w_and, ↓w_or, ↓w_yes, ↓w_ife, ↓w_bl, ↓w_andV, ↓w_orV, ↓w_notV, ↓wn_i, ↓w_int, ↓w_chain, ↓hk_int, ↓hk_0, ↓hk_2, ↓hk_l, ↓hd_nil, ↓hd_l, ↓hd_r, ↓w_call, ↓w_callio, ↓is_l, ↓is_r, ↓is_s, ↓mk_nil, ↓mk_r, ↓mk_l, ↓ib_n, ↓ib_s, ↓ib_none, ↓wfl_n, ↓wfl_r, ↓w_run, ↓iv_n, ↓iv_z, ↓iv_s, ↓w_next, ↓w_break, ↓w_cont, ↓w_never, ↓wx_n, ↓wx_r, ↓wx_b, ↓wx_c, ↓w_seq, ↓w_set, ↓w_expr, ↓w_ret, ↓w_ifs, ↓wm_nil, ↓wm_c, ↓sm_nil, ↓sm_c, ↓w_par, ↓bt_n, ↓bt_t, ↓bt_l, ↓bts_n, ↓bts_c, ↓w_tgt, ↓w_it, ↓w_itV, ↓w_itF, ↓w_str, ↓w_itP, ↓w_for, ↓w_lc, ↓w_mut, ↓w_store, ↓st1, wp_ok, wp_no, wp_ex, br_t, br_f, br_not, gv_z, gv_s, sv_z, sv_s, nk_int, nk_bl, nk_str, nk_tup, nk_ro, nk_non, nk_lt, nk_lf, nk_f, kk_0, kk_1, wpo_some, wpo_none, wpo_map, wpo_bind, o_add, o_adds, o_addl, o_addt, o_sub, o_mul, o_mull, o_fd, o_md, o_pw, o_ng, o_lt, o_le, o_gt, o_ge, o_abs, o_int, o_intb, o_is_ti, o_is_tb, o_is_ts, o_is_tt, o_is_tl, o_tup, o_lst, o_lenl, o_lent, o_lenr, o_lens, o_ixl, o_ixt, o_ixr, ixL_o, ixL_m1, gRepr_ok, gEq_ok, gNe_ok, eqD_int, eqD_bl, eqD_non, eqD_tup, eqD_lst, eqD_str, eqDs_nil, eqDs_c, eqDs_cn, eqDs_nc, eqDs_ints, o_eqS, o_neS, o_eqI, o_neI, o_eqB, o_neB, o_allB, o_anyB, o_sumI, o_sumM, o_allM, o_anyM, o_max2, o_min2, o_maxI, o_minI, o_tuple, o_tuplet, o_list, o_listt, o_rng1, o_rng2, o_append, o_pop, o_set, wk_l, wk_t, wk_r, wk_s, mu_l, mu_d, d_mut_l, d_mut_i, d_mut_b, d_mut_s, d_mut_t, d_mut_n, ixN_o, List.set_cons_zero, List.set_cons_succ, List.getLast?_concat, o_sumAI, o_sumAM, o_sumAt, o_sumAt2, o_maxA2, o_minA2, o_maxAI, o_minAI, o_maxAt, o_minAt, o_inSS, o_ninSS, o_ixs, o_join, o_isb, o_isn, o_notb, o_notn, in_int, in_non, in_tup, in_lst, in_str, in_bl, o_inI, o_inIt, o_ninI, o_ninIt, o_inS, o_inSt, o_lrg1, o_lrg2, o_trg1, o_popAtI, o_sortI, o_sortIt, o_extend, o_revL, o_zipl, o_zipt, o_rev, o_enum, wfp_nil, wfp_r, wfp_l, fo_n, fo_c, fo_b, fo_r, un_nil, un_c, re_nil, re_c, ov_nil, ov_c, kOk_0, kOk_1, kOk_2, kOk_n, o_minB2, o_maxB2, o_minBI, o_maxBI, o_minBt, o_maxBt, o_sortBI, o_sortBIt, o_dict1i, o_dict1s, o_dicK, o_dicT, nk_dt, nk_df, d_mut_dic, o_is_td, in_dic, o_is_tn, o_enumAl, o_enumAt, o_mulT, o_dT0, o_putT, nk_dT, mut_dT, List.map_cons, List.map_nil, List.length_cons, List.length_nil, List.replicate_succ, List.replicate_zero, List.cons_append, List.nil_append, List.append_nil, List.length_map, List.length_range, List.drop_succ_cons, List.drop_zero, List.zip_cons_cons, List.zip_nil_right, List.zip_nil_left, List.getElem?_cons_zero, List.getElem?_cons_succ, Option.join_some, Option.join_none, Option.map_some, Option.map_none, decide_true, decide_false, decide_not, Bool.not_true, Bool.not_false, Bool.not_not, Bool.true_and, Bool.false_and, Bool.and_true, Bool.and_false, true_and, and_true, false_and, and_false, not_true_eq_false, not_false_eq_true, if_true, if_false, reduceCtorEq, Option.some.injEq, and_self, mb_l, mb_r, Nat.reduceAdd, Nat.reducePow, Nat.reduceSub, Nat.reduceMul, Nat.reduceLT, Nat.reduceGT, Nat.reduceLeDiff, Nat.reduceEqDiff, Nat.reduceBEq, Nat.reduceBNe, Int.reduceAdd, Int.reduceSub, Int.reduceMul, Int.reduceNeg, Int.reduceDiv, Int.reduceMod, Int.reduceLT, Int.reduceLE, Int.reduceGT, Int.reduceGE, Int.reduceEq, Int.reduceNe, Int.reduceToNat, Int.reducePow, Int.reduceAbs, Int.reduceBEq, Int.reduceBNe, reduceIte, Nat.zero_add, Nat.sub_zero, Nat.add_zero, Int.natCast_one, Int.cast_ofNat_Int]
  have fl : (pts w h).length ≤ 3600 := by
    unfold pts
    refine Nat.le_trans (List.length_filter_le ..) ?_
    rw [List.length_map, List.length_range]
    omega
  have es := o_sortE2 (l := pts w h) (by omega)
  unfold pts at es
  simp (disch := first | assumption | omega | (refine okR_int ?_ ?_ <;> omega) | exact OkE.str | (refine okE_of ?_ ?_ <;> (simp only [okE_tup, okE_lst, okEs_c, okEs_nil, okEs_ints, okE_int, okE_bl, okE_non, okE_str, okEs_app, Bool.and_self, Bool.and_true] <;> decide +kernel))) only [↓w_c, ↓w_var, ↓w_mv, ↓wa_nil, ↓wa_vw, ↓wa_ev, ↓wf_nil, ↓wf_l, ↓wf_r, ↓w_ap, ↓wi_nil, ↓wi_r, ↓w_apF, ↓wb_b, ↓w_tb, ↓w_tru, ↓tr1, ↓tr_bl, ↓tr_int, ↓tr_non, ↓tr_lst, ↓tr_tup, ↓w_not, ↓w_and, ↓w_or, ↓w_yes, ↓w_ife, ↓w_bl, ↓w_andV, ↓w_orV, ↓w_notV, ↓wn_i, ↓w_int, ↓w_chain, ↓hk_int, ↓hk_0, ↓hk_2, ↓hk_l, ↓hd_nil, ↓hd_l, ↓hd_r, ↓w_call, ↓w_callio, ↓is_l, ↓is_r, ↓is_s, ↓mk_nil, ↓mk_r, ↓mk_l, ↓ib_n, ↓ib_s, ↓ib_none, ↓wfl_n, ↓wfl_r, ↓w_run, ↓iv_n, ↓iv_z, ↓iv_s, ↓w_next, ↓w_break, ↓w_cont, ↓w_never, ↓wx_n, ↓wx_r, ↓wx_b, ↓wx_c, ↓w_seq, ↓w_set, ↓w_expr, ↓w_ret, ↓w_ifs, ↓wm_nil, ↓wm_c, ↓sm_nil, ↓sm_c, ↓w_par, ↓bt_n, ↓bt_t, ↓bt_l, ↓bts_n, ↓bts_c, ↓w_tgt, ↓w_it, ↓w_itV, ↓w_itF, ↓w_str, ↓w_itP, ↓w_for, ↓w_lc, ↓w_mut, ↓w_store, ↓st1, wp_ok, wp_no, wp_ex, br_t, br_f, br_not, gv_z, gv_s, sv_z, sv_s, nk_int, nk_bl, nk_str, nk_tup, nk_ro, nk_non, nk_lt, nk_lf, nk_f, kk_0, kk_1, wpo_some, wpo_none, wpo_map, wpo_bind, o_add, o_adds, o_addl, o_addt, o_sub, o_mul, o_mull, o_fd, o_md, o_pw, o_ng, o_lt, o_le, o_gt, o_ge, o_abs, o_int, o_intb, o_is_ti, o_is_tb, o_is_ts, o_is_tt, o_is_tl, o_tup, o_lst, o_lenl, o_lent, o_lenr, o_lens, o_ixl, o_ixt, o_ixr, ixL_o, ixL_m1, gRepr_ok, gEq_ok, gNe_ok, eqD_int, eqD_bl, eqD_non, eqD_tup, eqD_lst, eqD_str, eqDs_nil, eqDs_c, eqDs_cn, eqDs_nc, eqDs_ints, o_eqS, o_neS, o_eqI, o_neI, o_eqB, o_neB, o_allB, o_anyB, o_sumI, o_sumM, o_allM, o_anyM, o_max2, o_min2, o_maxI, o_minI, o_tuple, o_tuplet, o_list, o_listt, o_rng1, o_rng2, o_append, o_pop, o_set, wk_l, wk_t, wk_r, wk_s, mu_l, mu_d, d_mut_l, d_mut_i, d_mut_b, d_mut_s, d_mut_t, d_mut_n, ixN_o, List.set_cons_zero, List.set_cons_succ, List.getLast?_concat, o_sumAI, o_sumAM, o_sumAt, o_sumAt2, o_maxA2, o_minA2, o_maxAI, o_minAI, o_maxAt, o_minAt, o_inSS, o_ninSS, o_ixs, o_join, o_isb, o_isn, o_notb, o_notn, in_int, in_non, in_tup, in_lst, in_str, in_bl, o_inI, o_inIt, o_ninI, o_ninIt, o_inS, o_inSt, o_lrg1, o_lrg2, o_trg1, o_popAtI, o_sortI, o_sortIt, o_extend, o_revL, o_zipl, o_zipt, o_rev, o_enum, wfp_nil, wfp_r, wfp_l, fo_n, fo_c, fo_b, fo_r, un_nil, un_c, re_nil, re_c, ov_nil, ov_c, kOk_0, kOk_1, kOk_2, kOk_n, o_minB2, o_maxB2, o_minBI, o_maxBI, o_minBt, o_maxBt, o_sortBI, o_sortBIt, o_dict1i, o_dict1s, o_dicK, o_dicT, nk_dt, nk_df, d_mut_dic, o_is_td, in_dic, o_is_tn, o_enumAl, o_enumAt, o_mulT, o_dT0, o_putT, nk_dT, mut_dT, List.map_cons, List.map_nil, List.length_cons, List.length_nil, List.replicate_succ, List.replicate_zero, List.cons_append, List.nil_append, List.append_nil, List.length_map, List.length_range, List.drop_succ_cons, List.drop_zero, List.zip_cons_cons, List.zip_nil_right, List.zip_nil_left, List.getElem?_cons_zero, List.getElem?_cons_succ, Option.join_some, Option.join_none, Option.map_some, Option.map_none, decide_true, decide_false, decide_not, Bool.not_true, Bool.not_false, Bool.not_not, Bool.true_and, Bool.false_and, Bool.and_true, Bool.and_false, true_and, and_true, false_and, and_false, not_true_eq_false, not_false_eq_true, if_true, if_false, reduceCtorEq, Option.some.injEq, and_self, mb_l, mb_r, Nat.reduceAdd, Nat.reducePow, Nat.reduceSub, Nat.reduceMul, Nat.reduceLT, Nat.reduceGT, Nat.reduceLeDiff, Nat.reduceEqDiff, Nat.reduceBEq, Nat.reduceBNe, Int.reduceAdd, Int.reduceSub, Int.reduceMul, Int.reduceNeg, Int.reduceDiv, Int.reduceMod, Int.reduceLT, Int.reduceLE, Int.reduceGT, Int.reduceGE, Int.reduceEq, Int.reduceNe, Int.reduceToNat, Int.reducePow, Int.reduceAbs, Int.reduceBEq, Int.reduceBNe, reduceIte, Nat.zero_add, Nat.sub_zero, Nat.add_zero, Int.natCast_one, Int.cast_ofNat_Int, es]
  rfl)
theorem q_like {w h a b : Int} (h1 : Ok w) (h2 : Ok h) (h3 : Ok a) (h4 : Ok b) : F_like_way [(.tup [.int w, .int h], 0), (.tup [.int a, .int b], 0)] = .ok (.bl (decide (w * b = h * a))) none := wp_of (by
  have m1 : Mb w b := by left; omega
  have m2 : Mb h a := by left; omega
  simp (disch := first | assumption | omega | (refine okR_int ?_ ?_ <;> omega) | exact OkE.str | (refine okE_of ?_ ?_ <;> (simp only [okE_tup, okE_lst, okEs_c, okEs_nil, okEs_ints, okE_int, okE_bl, okE_non, okE_str, okEs_app, Bool.and_self, Bool.and_true] <;> decide +kernel))) only [↓w_c, ↓w_var, ↓w_mv, ↓wa_nil, ↓wa_vw, ↓wa_ev, ↓wf_nil, ↓wf_l, ↓wf_r, ↓w_ap, ↓wi_nil, ↓wi_r, ↓w_apF, ↓wb_b, ↓w_tb, ↓w_tru, ↓tr1, ↓tr_bl, ↓tr_int, ↓tr_non, ↓tr_lst, ↓tr_tup, ↓w_not, ↓w_and, ↓w_or, ↓w_yes, ↓w_ife, ↓w_bl, ↓w_andV, ↓w_orV, ↓w_notV, ↓wn_i, ↓w_int, ↓w_chain, ↓hk_int, ↓hk_0, ↓hk_2, ↓hk_l, ↓hd_nil, ↓hd_l, ↓hd_r, ↓w_call, ↓w_callio, ↓is_l, ↓is_r, ↓is_s, ↓mk_nil, ↓mk_r, ↓mk_l, ↓ib_n, ↓ib_s, ↓ib_none, ↓wfl_n, ↓wfl_r, ↓w_run, ↓iv_n, ↓iv_z, ↓iv_s, ↓w_next, ↓w_break, ↓w_cont, ↓w_never, ↓wx_n, ↓wx_r, ↓wx_b, ↓wx_c, ↓w_seq, ↓w_set, ↓w_expr, ↓w_ret, ↓w_ifs, ↓wm_nil, ↓wm_c, ↓sm_nil, ↓sm_c, ↓w_par, ↓bt_n, ↓bt_t, ↓bt_l, ↓bts_n, ↓bts_c, ↓w_tgt, ↓w_it, ↓w_itV, ↓w_itF, ↓w_str, ↓w_itP, ↓w_for, ↓w_lc, ↓w_mut, ↓w_store, ↓st1, wp_ok, wp_no, wp_ex, br_t, br_f, br_not, gv_z, gv_s, sv_z, sv_s, nk_int, nk_bl, nk_str, nk_tup, nk_ro, nk_non, nk_lt, nk_lf, nk_f, kk_0, kk_1, wpo_some, wpo_none, wpo_map, wpo_bind, o_add, o_adds, o_addl, o_addt, o_sub, o_mul, o_mull, o_fd, o_md, o_pw, o_ng, o_lt, o_le, o_gt, o_ge, o_abs, o_int, o_intb, o_is_ti, o_is_tb, o_is_ts, o_is_tt, o_is_tl, o_tup, o_lst, o_lenl, o_lent, o_lenr, o_lens, o_ixl, o_ixt, o_ixr, ixL_o, ixL_m1, gRepr_ok, gEq_ok, gNe_ok, eqD_int, eqD_bl, eqD_non, eqD_tup, eqD_lst, eqD_str, eqDs_nil, eqDs_c, eqDs_cn, eqDs_nc, eqDs_ints, o_eqS, o_neS, o_eqI, o_neI, o_eqB, o_neB, o_allB, o_anyB, o_sumI, o_sumM, o_allM, o_anyM, o_max2, o_min2, o_maxI, o_minI, o_tuple, o_tuplet, o_list, o_listt, o_rng1, o_rng2, o_append, o_pop, o_set, wk_l, wk_t, wk_r, wk_s, mu_l, mu_d, d_mut_l, d_mut_i, d_mut_b, d_mut_s, d_mut_t, d_mut_n, ixN_o, List.set_cons_zero, List.set_cons_succ, List.getLast?_concat, o_sumAI, o_sumAM, o_sumAt, o_sumAt2, o_maxA2, o_minA2, o_maxAI, o_minAI, o_maxAt, o_minAt, o_inSS, o_ninSS, o_ixs, o_join, o_isb, o_isn, o_notb, o_notn, in_int, in_non, in_tup, in_lst, in_str, in_bl, o_inI, o_inIt, o_ninI, o_ninIt, o_inS, o_inSt, o_lrg1, o_lrg2, o_trg1, o_popAtI, o_sortI, o_sortIt, o_extend, o_revL, o_zipl, o_zipt, o_rev, o_enum, wfp_nil, wfp_r, wfp_l, fo_n, fo_c, fo_b, fo_r, un_nil, un_c, re_nil, re_c, ov_nil, ov_c, kOk_0, kOk_1, kOk_2, kOk_n, o_minB2, o_maxB2, o_minBI, o_maxBI, o_minBt, o_maxBt, o_sortBI, o_sortBIt, o_dict1i, o_dict1s, o_dicK, o_dicT, nk_dt, nk_df, d_mut_dic, o_is_td, in_dic, o_is_tn, o_enumAl, o_enumAt, o_mulT, o_dT0, o_putT, nk_dT, mut_dT, List.map_cons, List.map_nil, List.length_cons, List.length_nil, List.replicate_succ, List.replicate_zero, List.cons_append, List.nil_append, List.append_nil, List.length_map, List.length_range, List.drop_succ_cons, List.drop_zero, List.zip_cons_cons, List.zip_nil_right, List.zip_nil_left, List.getElem?_cons_zero, List.getElem?_cons_succ, Option.join_some, Option.join_none, Option.map_some, Option.map_none, decide_true, decide_false, decide_not, Bool.not_true, Bool.not_false, Bool.not_not, Bool.true_and, Bool.false_and, Bool.and_true, Bool.and_false, true_and, and_true, false_and, and_false, not_true_eq_false, not_false_eq_true, if_true, if_false, reduceCtorEq, Option.some.injEq, and_self, mb_l, mb_r, Nat.reduceAdd, Nat.reducePow, Nat.reduceSub, Nat.reduceMul, Nat.reduceLT, Nat.reduceGT, Nat.reduceLeDiff, Nat.reduceEqDiff, Nat.reduceBEq, Nat.reduceBNe, Int.reduceAdd, Int.reduceSub, Int.reduceMul, Int.reduceNeg, Int.reduceDiv, Int.reduceMod, Int.reduceLT, Int.reduceLE, Int.reduceGT, Int.reduceGE, Int.reduceEq, Int.reduceNe, Int.reduceToNat, Int.reducePow, Int.reduceAbs, Int.reduceBEq, Int.reduceBNe, reduceIte, Nat.zero_add, Nat.sub_zero, Nat.add_zero, Int.natCast_one, Int.cast_ofNat_Int, F_like_way, b_like_way, q_box h1 h2, q_box h3 h4])
def word (p q : Bool) : Str := if p = true then (if q = true then Str.ofString "across" else Str.ofString "right") else Str.ofString "left"
theorem q_corner {w h : Int} (h1 : Ok w) (h2 : Ok h) : F_corner_of [(.tup [.int w, .int h], 0)] = .ok (.tup [.str (word (decide (ls w h / w % 2 = 1)) (decide (ls w h / h % 2 = 1))), .int (ls w h), .int (ls w h / w + ls w h / h - 2)]) none := wp_of (by
  simp (disch := first | assumption | omega | (refine okR_int ?_ ?_ <;> omega) | exact OkE.str | (refine okE_of ?_ ?_ <;> (simp only [okE_tup, okE_lst, okEs_c, okEs_nil, okEs_ints, okE_int, okE_bl, okE_non, okE_str, okEs_app, Bool.and_self, Bool.and_true] <;> decide +kernel))) only [↓w_c, ↓w_var, ↓w_mv, ↓wa_nil, ↓wa_vw, ↓wa_ev, ↓wf_nil, ↓wf_l, ↓wf_r, ↓w_ap, ↓wi_nil, ↓wi_r, ↓w_apF, ↓wb_b, ↓w_tb, ↓w_tru, ↓tr1, ↓tr_bl, ↓tr_int, ↓tr_non, ↓tr_lst, ↓tr_tup, ↓w_not, ↓w_and, ↓w_or, ↓w_yes, ↓w_ife, ↓w_bl, ↓w_andV, ↓w_orV, ↓w_notV, ↓wn_i, ↓w_int, ↓w_chain, ↓hk_int, ↓hk_0, ↓hk_2, ↓hk_l, ↓hd_nil, ↓hd_l, ↓hd_r, ↓w_call, ↓w_callio, ↓is_l, ↓is_r, ↓is_s, ↓mk_nil, ↓mk_r, ↓mk_l, ↓ib_n, ↓ib_s, ↓ib_none, ↓wfl_n, ↓wfl_r, ↓w_run, ↓iv_n, ↓iv_z, ↓iv_s, ↓w_next, ↓w_break, ↓w_cont, ↓w_never, ↓wx_n, ↓wx_r, ↓wx_b, ↓wx_c, ↓w_seq, ↓w_set, ↓w_expr, ↓w_ret, ↓w_ifs, ↓wm_nil, ↓wm_c, ↓sm_nil, ↓sm_c, ↓w_par, ↓bt_n, ↓bt_t, ↓bt_l, ↓bts_n, ↓bts_c, ↓w_tgt, ↓w_it, ↓w_itV, ↓w_itF, ↓w_str, ↓w_itP, ↓w_for, ↓w_lc, ↓w_mut, ↓w_store, ↓st1, wp_ok, wp_no, wp_ex, br_t, br_f, br_not, gv_z, gv_s, sv_z, sv_s, nk_int, nk_bl, nk_str, nk_tup, nk_ro, nk_non, nk_lt, nk_lf, nk_f, kk_0, kk_1, wpo_some, wpo_none, wpo_map, wpo_bind, o_add, o_adds, o_addl, o_addt, o_sub, o_mul, o_mull, o_fd, o_md, o_pw, o_ng, o_lt, o_le, o_gt, o_ge, o_abs, o_int, o_intb, o_is_ti, o_is_tb, o_is_ts, o_is_tt, o_is_tl, o_tup, o_lst, o_lenl, o_lent, o_lenr, o_lens, o_ixl, o_ixt, o_ixr, ixL_o, ixL_m1, gRepr_ok, gEq_ok, gNe_ok, eqD_int, eqD_bl, eqD_non, eqD_tup, eqD_lst, eqD_str, eqDs_nil, eqDs_c, eqDs_cn, eqDs_nc, eqDs_ints, o_eqS, o_neS, o_eqI, o_neI, o_eqB, o_neB, o_allB, o_anyB, o_sumI, o_sumM, o_allM, o_anyM, o_max2, o_min2, o_maxI, o_minI, o_tuple, o_tuplet, o_list, o_listt, o_rng1, o_rng2, o_append, o_pop, o_set, wk_l, wk_t, wk_r, wk_s, mu_l, mu_d, d_mut_l, d_mut_i, d_mut_b, d_mut_s, d_mut_t, d_mut_n, ixN_o, List.set_cons_zero, List.set_cons_succ, List.getLast?_concat, o_sumAI, o_sumAM, o_sumAt, o_sumAt2, o_maxA2, o_minA2, o_maxAI, o_minAI, o_maxAt, o_minAt, o_inSS, o_ninSS, o_ixs, o_join, o_isb, o_isn, o_notb, o_notn, in_int, in_non, in_tup, in_lst, in_str, in_bl, o_inI, o_inIt, o_ninI, o_ninIt, o_inS, o_inSt, o_lrg1, o_lrg2, o_trg1, o_popAtI, o_sortI, o_sortIt, o_extend, o_revL, o_zipl, o_zipt, o_rev, o_enum, wfp_nil, wfp_r, wfp_l, fo_n, fo_c, fo_b, fo_r, un_nil, un_c, re_nil, re_c, ov_nil, ov_c, kOk_0, kOk_1, kOk_2, kOk_n, o_minB2, o_maxB2, o_minBI, o_maxBI, o_minBt, o_maxBt, o_sortBI, o_sortBIt, o_dict1i, o_dict1s, o_dicK, o_dicT, nk_dt, nk_df, d_mut_dic, o_is_td, in_dic, o_is_tn, o_enumAl, o_enumAt, o_mulT, o_dT0, o_putT, nk_dT, mut_dT, List.map_cons, List.map_nil, List.length_cons, List.length_nil, List.replicate_succ, List.replicate_zero, List.cons_append, List.nil_append, List.append_nil, List.length_map, List.length_range, List.drop_succ_cons, List.drop_zero, List.zip_cons_cons, List.zip_nil_right, List.zip_nil_left, List.getElem?_cons_zero, List.getElem?_cons_succ, Option.join_some, Option.join_none, Option.map_some, Option.map_none, decide_true, decide_false, decide_not, Bool.not_true, Bool.not_false, Bool.not_not, Bool.true_and, Bool.false_and, Bool.and_true, Bool.and_false, true_and, and_true, false_and, and_false, not_true_eq_false, not_false_eq_true, if_true, if_false, reduceCtorEq, Option.some.injEq, and_self, mb_l, mb_r, Nat.reduceAdd, Nat.reducePow, Nat.reduceSub, Nat.reduceMul, Nat.reduceLT, Nat.reduceGT, Nat.reduceLeDiff, Nat.reduceEqDiff, Nat.reduceBEq, Nat.reduceBNe, Int.reduceAdd, Int.reduceSub, Int.reduceMul, Int.reduceNeg, Int.reduceDiv, Int.reduceMod, Int.reduceLT, Int.reduceLE, Int.reduceGT, Int.reduceGE, Int.reduceEq, Int.reduceNe, Int.reduceToNat, Int.reducePow, Int.reduceAbs, Int.reduceBEq, Int.reduceBNe, reduceIte, Nat.zero_add, Nat.sub_zero, Nat.add_zero, Int.natCast_one, Int.cast_ofNat_Int, F_corner_of, b_corner_of, q_box h1 h2, q_steps h1 h2]
  refine ⟨by omega, by omega, ?_⟩
  refine br_ci (fun a => ?_) (fun a => ?_)
  · simp (disch := first | assumption | omega | (refine okR_int ?_ ?_ <;> omega) | exact OkE.str | (refine okE_of ?_ ?_ <;> (simp only [okE_tup, okE_lst, okEs_c, okEs_nil, okEs_ints, okE_int, okE_bl, okE_non, okE_str, okEs_app, Bool.and_self, Bool.and_true] <;> decide +kernel))) only [↓w_c, ↓w_var, ↓w_mv, ↓wa_nil, ↓wa_vw, ↓wa_ev, ↓wf_nil, ↓wf_l, ↓wf_r, ↓w_ap, ↓wi_nil, ↓wi_r, ↓w_apF, ↓wb_b, ↓w_tb, ↓w_tru, ↓tr1, ↓tr_bl, ↓tr_int, ↓tr_non, ↓tr_lst, ↓tr_tup, ↓w_not, ↓w_and, ↓w_or, ↓w_yes, ↓w_ife, ↓w_bl, ↓w_andV, ↓w_orV, ↓w_notV, ↓wn_i, ↓w_int, ↓w_chain, ↓hk_int, ↓hk_0, ↓hk_2, ↓hk_l, ↓hd_nil, ↓hd_l, ↓hd_r, ↓w_call, ↓w_callio, ↓is_l, ↓is_r, ↓is_s, ↓mk_nil, ↓mk_r, ↓mk_l, ↓ib_n, ↓ib_s, ↓ib_none, ↓wfl_n, ↓wfl_r, ↓w_run, ↓iv_n, ↓iv_z, ↓iv_s, ↓w_next, ↓w_break, ↓w_cont, ↓w_never, ↓wx_n, ↓wx_r, ↓wx_b, ↓wx_c, ↓w_seq, ↓w_set, ↓w_expr, ↓w_ret, ↓w_ifs, ↓wm_nil, ↓wm_c, ↓sm_nil, ↓sm_c, ↓w_par, ↓bt_n, ↓bt_t, ↓bt_l, ↓bts_n, ↓bts_c, ↓w_tgt, ↓w_it, ↓w_itV, ↓w_itF, ↓w_str, ↓w_itP, ↓w_for, ↓w_lc, ↓w_mut, ↓w_store, ↓st1, wp_ok, wp_no, wp_ex, br_t, br_f, br_not, gv_z, gv_s, sv_z, sv_s, nk_int, nk_bl, nk_str, nk_tup, nk_ro, nk_non, nk_lt, nk_lf, nk_f, kk_0, kk_1, wpo_some, wpo_none, wpo_map, wpo_bind, o_add, o_adds, o_addl, o_addt, o_sub, o_mul, o_mull, o_fd, o_md, o_pw, o_ng, o_lt, o_le, o_gt, o_ge, o_abs, o_int, o_intb, o_is_ti, o_is_tb, o_is_ts, o_is_tt, o_is_tl, o_tup, o_lst, o_lenl, o_lent, o_lenr, o_lens, o_ixl, o_ixt, o_ixr, ixL_o, ixL_m1, gRepr_ok, gEq_ok, gNe_ok, eqD_int, eqD_bl, eqD_non, eqD_tup, eqD_lst, eqD_str, eqDs_nil, eqDs_c, eqDs_cn, eqDs_nc, eqDs_ints, o_eqS, o_neS, o_eqI, o_neI, o_eqB, o_neB, o_allB, o_anyB, o_sumI, o_sumM, o_allM, o_anyM, o_max2, o_min2, o_maxI, o_minI, o_tuple, o_tuplet, o_list, o_listt, o_rng1, o_rng2, o_append, o_pop, o_set, wk_l, wk_t, wk_r, wk_s, mu_l, mu_d, d_mut_l, d_mut_i, d_mut_b, d_mut_s, d_mut_t, d_mut_n, ixN_o, List.set_cons_zero, List.set_cons_succ, List.getLast?_concat, o_sumAI, o_sumAM, o_sumAt, o_sumAt2, o_maxA2, o_minA2, o_maxAI, o_minAI, o_maxAt, o_minAt, o_inSS, o_ninSS, o_ixs, o_join, o_isb, o_isn, o_notb, o_notn, in_int, in_non, in_tup, in_lst, in_str, in_bl, o_inI, o_inIt, o_ninI, o_ninIt, o_inS, o_inSt, o_lrg1, o_lrg2, o_trg1, o_popAtI, o_sortI, o_sortIt, o_extend, o_revL, o_zipl, o_zipt, o_rev, o_enum, wfp_nil, wfp_r, wfp_l, fo_n, fo_c, fo_b, fo_r, un_nil, un_c, re_nil, re_c, ov_nil, ov_c, kOk_0, kOk_1, kOk_2, kOk_n, o_minB2, o_maxB2, o_minBI, o_maxBI, o_minBt, o_maxBt, o_sortBI, o_sortBIt, o_dict1i, o_dict1s, o_dicK, o_dicT, nk_dt, nk_df, d_mut_dic, o_is_td, in_dic, o_is_tn, o_enumAl, o_enumAt, o_mulT, o_dT0, o_putT, nk_dT, mut_dT, List.map_cons, List.map_nil, List.length_cons, List.length_nil, List.replicate_succ, List.replicate_zero, List.cons_append, List.nil_append, List.append_nil, List.length_map, List.length_range, List.drop_succ_cons, List.drop_zero, List.zip_cons_cons, List.zip_nil_right, List.zip_nil_left, List.getElem?_cons_zero, List.getElem?_cons_succ, Option.join_some, Option.join_none, Option.map_some, Option.map_none, decide_true, decide_false, decide_not, Bool.not_true, Bool.not_false, Bool.not_not, Bool.true_and, Bool.false_and, Bool.and_true, Bool.and_false, true_and, and_true, false_and, and_false, not_true_eq_false, not_false_eq_true, if_true, if_false, reduceCtorEq, Option.some.injEq, and_self, mb_l, mb_r, Nat.reduceAdd, Nat.reducePow, Nat.reduceSub, Nat.reduceMul, Nat.reduceLT, Nat.reduceGT, Nat.reduceLeDiff, Nat.reduceEqDiff, Nat.reduceBEq, Nat.reduceBNe, Int.reduceAdd, Int.reduceSub, Int.reduceMul, Int.reduceNeg, Int.reduceDiv, Int.reduceMod, Int.reduceLT, Int.reduceLE, Int.reduceGT, Int.reduceGE, Int.reduceEq, Int.reduceNe, Int.reduceToNat, Int.reducePow, Int.reduceAbs, Int.reduceBEq, Int.reduceBNe, reduceIte, Nat.zero_add, Nat.sub_zero, Nat.add_zero, Int.natCast_one, Int.cast_ofNat_Int, a]
    refine br_ci (fun b => ?_) (fun b => ?_)
    · simp (disch := first | assumption | omega | (refine okR_int ?_ ?_ <;> omega) | exact OkE.str | (refine okE_of ?_ ?_ <;> (simp only [okE_tup, okE_lst, okEs_c, okEs_nil, okEs_ints, okE_int, okE_bl, okE_non, okE_str, okEs_app, Bool.and_self, Bool.and_true] <;> decide +kernel))) only [↓w_c, ↓w_var, ↓w_mv, ↓wa_nil, ↓wa_vw, ↓wa_ev, ↓wf_nil, ↓wf_l, ↓wf_r, ↓w_ap, ↓wi_nil, ↓wi_r, ↓w_apF, ↓wb_b, ↓w_tb, ↓w_tru, ↓tr1, ↓tr_bl, ↓tr_int, ↓tr_non, ↓tr_lst, ↓tr_tup, ↓w_not, ↓w_and, ↓w_or, ↓w_yes, ↓w_ife, ↓w_bl, ↓w_andV, ↓w_orV, ↓w_notV, ↓wn_i, ↓w_int, ↓w_chain, ↓hk_int, ↓hk_0, ↓hk_2, ↓hk_l, ↓hd_nil, ↓hd_l, ↓hd_r, ↓w_call, ↓w_callio, ↓is_l, ↓is_r, ↓is_s, ↓mk_nil, ↓mk_r, ↓mk_l, ↓ib_n, ↓ib_s, ↓ib_none, ↓wfl_n, ↓wfl_r, ↓w_run, ↓iv_n, ↓iv_z, ↓iv_s, ↓w_next, ↓w_break, ↓w_cont, ↓w_never, ↓wx_n, ↓wx_r, ↓wx_b, ↓wx_c, ↓w_seq, ↓w_set, ↓w_expr, ↓w_ret, ↓w_ifs, ↓wm_nil, ↓wm_c, ↓sm_nil, ↓sm_c, ↓w_par, ↓bt_n, ↓bt_t, ↓bt_l, ↓bts_n, ↓bts_c, ↓w_tgt, ↓w_it, ↓w_itV, ↓w_itF, ↓w_str, ↓w_itP, ↓w_for, ↓w_lc, ↓w_mut, ↓w_store, ↓st1, wp_ok, wp_no, wp_ex, br_t, br_f, br_not, gv_z, gv_s, sv_z, sv_s, nk_int, nk_bl, nk_str, nk_tup, nk_ro, nk_non, nk_lt, nk_lf, nk_f, kk_0, kk_1, wpo_some, wpo_none, wpo_map, wpo_bind, o_add, o_adds, o_addl, o_addt, o_sub, o_mul, o_mull, o_fd, o_md, o_pw, o_ng, o_lt, o_le, o_gt, o_ge, o_abs, o_int, o_intb, o_is_ti, o_is_tb, o_is_ts, o_is_tt, o_is_tl, o_tup, o_lst, o_lenl, o_lent, o_lenr, o_lens, o_ixl, o_ixt, o_ixr, ixL_o, ixL_m1, gRepr_ok, gEq_ok, gNe_ok, eqD_int, eqD_bl, eqD_non, eqD_tup, eqD_lst, eqD_str, eqDs_nil, eqDs_c, eqDs_cn, eqDs_nc, eqDs_ints, o_eqS, o_neS, o_eqI, o_neI, o_eqB, o_neB, o_allB, o_anyB, o_sumI, o_sumM, o_allM, o_anyM, o_max2, o_min2, o_maxI, o_minI, o_tuple, o_tuplet, o_list, o_listt, o_rng1, o_rng2, o_append, o_pop, o_set, wk_l, wk_t, wk_r, wk_s, mu_l, mu_d, d_mut_l, d_mut_i, d_mut_b, d_mut_s, d_mut_t, d_mut_n, ixN_o, List.set_cons_zero, List.set_cons_succ, List.getLast?_concat, o_sumAI, o_sumAM, o_sumAt, o_sumAt2, o_maxA2, o_minA2, o_maxAI, o_minAI, o_maxAt, o_minAt, o_inSS, o_ninSS, o_ixs, o_join, o_isb, o_isn, o_notb, o_notn, in_int, in_non, in_tup, in_lst, in_str, in_bl, o_inI, o_inIt, o_ninI, o_ninIt, o_inS, o_inSt, o_lrg1, o_lrg2, o_trg1, o_popAtI, o_sortI, o_sortIt, o_extend, o_revL, o_zipl, o_zipt, o_rev, o_enum, wfp_nil, wfp_r, wfp_l, fo_n, fo_c, fo_b, fo_r, un_nil, un_c, re_nil, re_c, ov_nil, ov_c, kOk_0, kOk_1, kOk_2, kOk_n, o_minB2, o_maxB2, o_minBI, o_maxBI, o_minBt, o_maxBt, o_sortBI, o_sortBIt, o_dict1i, o_dict1s, o_dicK, o_dicT, nk_dt, nk_df, d_mut_dic, o_is_td, in_dic, o_is_tn, o_enumAl, o_enumAt, o_mulT, o_dT0, o_putT, nk_dT, mut_dT, List.map_cons, List.map_nil, List.length_cons, List.length_nil, List.replicate_succ, List.replicate_zero, List.cons_append, List.nil_append, List.append_nil, List.length_map, List.length_range, List.drop_succ_cons, List.drop_zero, List.zip_cons_cons, List.zip_nil_right, List.zip_nil_left, List.getElem?_cons_zero, List.getElem?_cons_succ, Option.join_some, Option.join_none, Option.map_some, Option.map_none, decide_true, decide_false, decide_not, Bool.not_true, Bool.not_false, Bool.not_not, Bool.true_and, Bool.false_and, Bool.and_true, Bool.and_false, true_and, and_true, false_and, and_false, not_true_eq_false, not_false_eq_true, if_true, if_false, reduceCtorEq, Option.some.injEq, and_self, mb_l, mb_r, Nat.reduceAdd, Nat.reducePow, Nat.reduceSub, Nat.reduceMul, Nat.reduceLT, Nat.reduceGT, Nat.reduceLeDiff, Nat.reduceEqDiff, Nat.reduceBEq, Nat.reduceBNe, Int.reduceAdd, Int.reduceSub, Int.reduceMul, Int.reduceNeg, Int.reduceDiv, Int.reduceMod, Int.reduceLT, Int.reduceLE, Int.reduceGT, Int.reduceGE, Int.reduceEq, Int.reduceNe, Int.reduceToNat, Int.reducePow, Int.reduceAbs, Int.reduceBEq, Int.reduceBNe, reduceIte, Nat.zero_add, Nat.sub_zero, Nat.add_zero, Int.natCast_one, Int.cast_ofNat_Int]
      simp [word, a, b]
    · simp (disch := first | assumption | omega | (refine okR_int ?_ ?_ <;> omega) | exact OkE.str | (refine okE_of ?_ ?_ <;> (simp only [okE_tup, okE_lst, okEs_c, okEs_nil, okEs_ints, okE_int, okE_bl, okE_non, okE_str, okEs_app, Bool.and_self, Bool.and_true] <;> decide +kernel))) only [↓w_c, ↓w_var, ↓w_mv, ↓wa_nil, ↓wa_vw, ↓wa_ev, ↓wf_nil, ↓wf_l, ↓wf_r, ↓w_ap, ↓wi_nil, ↓wi_r, ↓w_apF, ↓wb_b, ↓w_tb, ↓w_tru, ↓tr1, ↓tr_bl, ↓tr_int, ↓tr_non, ↓tr_lst, ↓tr_tup, ↓w_not, ↓w_and, ↓w_or, ↓w_yes, ↓w_ife, ↓w_bl, ↓w_andV, ↓w_orV, ↓w_notV, ↓wn_i, ↓w_int, ↓w_chain, ↓hk_int, ↓hk_0, ↓hk_2, ↓hk_l, ↓hd_nil, ↓hd_l, ↓hd_r, ↓w_call, ↓w_callio, ↓is_l, ↓is_r, ↓is_s, ↓mk_nil, ↓mk_r, ↓mk_l, ↓ib_n, ↓ib_s, ↓ib_none, ↓wfl_n, ↓wfl_r, ↓w_run, ↓iv_n, ↓iv_z, ↓iv_s, ↓w_next, ↓w_break, ↓w_cont, ↓w_never, ↓wx_n, ↓wx_r, ↓wx_b, ↓wx_c, ↓w_seq, ↓w_set, ↓w_expr, ↓w_ret, ↓w_ifs, ↓wm_nil, ↓wm_c, ↓sm_nil, ↓sm_c, ↓w_par, ↓bt_n, ↓bt_t, ↓bt_l, ↓bts_n, ↓bts_c, ↓w_tgt, ↓w_it, ↓w_itV, ↓w_itF, ↓w_str, ↓w_itP, ↓w_for, ↓w_lc, ↓w_mut, ↓w_store, ↓st1, wp_ok, wp_no, wp_ex, br_t, br_f, br_not, gv_z, gv_s, sv_z, sv_s, nk_int, nk_bl, nk_str, nk_tup, nk_ro, nk_non, nk_lt, nk_lf, nk_f, kk_0, kk_1, wpo_some, wpo_none, wpo_map, wpo_bind, o_add, o_adds, o_addl, o_addt, o_sub, o_mul, o_mull, o_fd, o_md, o_pw, o_ng, o_lt, o_le, o_gt, o_ge, o_abs, o_int, o_intb, o_is_ti, o_is_tb, o_is_ts, o_is_tt, o_is_tl, o_tup, o_lst, o_lenl, o_lent, o_lenr, o_lens, o_ixl, o_ixt, o_ixr, ixL_o, ixL_m1, gRepr_ok, gEq_ok, gNe_ok, eqD_int, eqD_bl, eqD_non, eqD_tup, eqD_lst, eqD_str, eqDs_nil, eqDs_c, eqDs_cn, eqDs_nc, eqDs_ints, o_eqS, o_neS, o_eqI, o_neI, o_eqB, o_neB, o_allB, o_anyB, o_sumI, o_sumM, o_allM, o_anyM, o_max2, o_min2, o_maxI, o_minI, o_tuple, o_tuplet, o_list, o_listt, o_rng1, o_rng2, o_append, o_pop, o_set, wk_l, wk_t, wk_r, wk_s, mu_l, mu_d, d_mut_l, d_mut_i, d_mut_b, d_mut_s, d_mut_t, d_mut_n, ixN_o, List.set_cons_zero, List.set_cons_succ, List.getLast?_concat, o_sumAI, o_sumAM, o_sumAt, o_sumAt2, o_maxA2, o_minA2, o_maxAI, o_minAI, o_maxAt, o_minAt, o_inSS, o_ninSS, o_ixs, o_join, o_isb, o_isn, o_notb, o_notn, in_int, in_non, in_tup, in_lst, in_str, in_bl, o_inI, o_inIt, o_ninI, o_ninIt, o_inS, o_inSt, o_lrg1, o_lrg2, o_trg1, o_popAtI, o_sortI, o_sortIt, o_extend, o_revL, o_zipl, o_zipt, o_rev, o_enum, wfp_nil, wfp_r, wfp_l, fo_n, fo_c, fo_b, fo_r, un_nil, un_c, re_nil, re_c, ov_nil, ov_c, kOk_0, kOk_1, kOk_2, kOk_n, o_minB2, o_maxB2, o_minBI, o_maxBI, o_minBt, o_maxBt, o_sortBI, o_sortBIt, o_dict1i, o_dict1s, o_dicK, o_dicT, nk_dt, nk_df, d_mut_dic, o_is_td, in_dic, o_is_tn, o_enumAl, o_enumAt, o_mulT, o_dT0, o_putT, nk_dT, mut_dT, List.map_cons, List.map_nil, List.length_cons, List.length_nil, List.replicate_succ, List.replicate_zero, List.cons_append, List.nil_append, List.append_nil, List.length_map, List.length_range, List.drop_succ_cons, List.drop_zero, List.zip_cons_cons, List.zip_nil_right, List.zip_nil_left, List.getElem?_cons_zero, List.getElem?_cons_succ, Option.join_some, Option.join_none, Option.map_some, Option.map_none, decide_true, decide_false, decide_not, Bool.not_true, Bool.not_false, Bool.not_not, Bool.true_and, Bool.false_and, Bool.and_true, Bool.and_false, true_and, and_true, false_and, and_false, not_true_eq_false, not_false_eq_true, if_true, if_false, reduceCtorEq, Option.some.injEq, and_self, mb_l, mb_r, Nat.reduceAdd, Nat.reducePow, Nat.reduceSub, Nat.reduceMul, Nat.reduceLT, Nat.reduceGT, Nat.reduceLeDiff, Nat.reduceEqDiff, Nat.reduceBEq, Nat.reduceBNe, Int.reduceAdd, Int.reduceSub, Int.reduceMul, Int.reduceNeg, Int.reduceDiv, Int.reduceMod, Int.reduceLT, Int.reduceLE, Int.reduceGT, Int.reduceGE, Int.reduceEq, Int.reduceNe, Int.reduceToNat, Int.reducePow, Int.reduceAbs, Int.reduceBEq, Int.reduceBNe, reduceIte, Nat.zero_add, Nat.sub_zero, Nat.add_zero, Int.natCast_one, Int.cast_ofNat_Int, a]
      simp [word, a, b]
  · simp (disch := first | assumption | omega | (refine okR_int ?_ ?_ <;> omega) | exact OkE.str | (refine okE_of ?_ ?_ <;> (simp only [okE_tup, okE_lst, okEs_c, okEs_nil, okEs_ints, okE_int, okE_bl, okE_non, okE_str, okEs_app, Bool.and_self, Bool.and_true] <;> decide +kernel))) only [↓w_c, ↓w_var, ↓w_mv, ↓wa_nil, ↓wa_vw, ↓wa_ev, ↓wf_nil, ↓wf_l, ↓wf_r, ↓w_ap, ↓wi_nil, ↓wi_r, ↓w_apF, ↓wb_b, ↓w_tb, ↓w_tru, ↓tr1, ↓tr_bl, ↓tr_int, ↓tr_non, ↓tr_lst, ↓tr_tup, ↓w_not, ↓w_and, ↓w_or, ↓w_yes, ↓w_ife, ↓w_bl, ↓w_andV, ↓w_orV, ↓w_notV, ↓wn_i, ↓w_int, ↓w_chain, ↓hk_int, ↓hk_0, ↓hk_2, ↓hk_l, ↓hd_nil, ↓hd_l, ↓hd_r, ↓w_call, ↓w_callio, ↓is_l, ↓is_r, ↓is_s, ↓mk_nil, ↓mk_r, ↓mk_l, ↓ib_n, ↓ib_s, ↓ib_none, ↓wfl_n, ↓wfl_r, ↓w_run, ↓iv_n, ↓iv_z, ↓iv_s, ↓w_next, ↓w_break, ↓w_cont, ↓w_never, ↓wx_n, ↓wx_r, ↓wx_b, ↓wx_c, ↓w_seq, ↓w_set, ↓w_expr, ↓w_ret, ↓w_ifs, ↓wm_nil, ↓wm_c, ↓sm_nil, ↓sm_c, ↓w_par, ↓bt_n, ↓bt_t, ↓bt_l, ↓bts_n, ↓bts_c, ↓w_tgt, ↓w_it, ↓w_itV, ↓w_itF, ↓w_str, ↓w_itP, ↓w_for, ↓w_lc, ↓w_mut, ↓w_store, ↓st1, wp_ok, wp_no, wp_ex, br_t, br_f, br_not, gv_z, gv_s, sv_z, sv_s, nk_int, nk_bl, nk_str, nk_tup, nk_ro, nk_non, nk_lt, nk_lf, nk_f, kk_0, kk_1, wpo_some, wpo_none, wpo_map, wpo_bind, o_add, o_adds, o_addl, o_addt, o_sub, o_mul, o_mull, o_fd, o_md, o_pw, o_ng, o_lt, o_le, o_gt, o_ge, o_abs, o_int, o_intb, o_is_ti, o_is_tb, o_is_ts, o_is_tt, o_is_tl, o_tup, o_lst, o_lenl, o_lent, o_lenr, o_lens, o_ixl, o_ixt, o_ixr, ixL_o, ixL_m1, gRepr_ok, gEq_ok, gNe_ok, eqD_int, eqD_bl, eqD_non, eqD_tup, eqD_lst, eqD_str, eqDs_nil, eqDs_c, eqDs_cn, eqDs_nc, eqDs_ints, o_eqS, o_neS, o_eqI, o_neI, o_eqB, o_neB, o_allB, o_anyB, o_sumI, o_sumM, o_allM, o_anyM, o_max2, o_min2, o_maxI, o_minI, o_tuple, o_tuplet, o_list, o_listt, o_rng1, o_rng2, o_append, o_pop, o_set, wk_l, wk_t, wk_r, wk_s, mu_l, mu_d, d_mut_l, d_mut_i, d_mut_b, d_mut_s, d_mut_t, d_mut_n, ixN_o, List.set_cons_zero, List.set_cons_succ, List.getLast?_concat, o_sumAI, o_sumAM, o_sumAt, o_sumAt2, o_maxA2, o_minA2, o_maxAI, o_minAI, o_maxAt, o_minAt, o_inSS, o_ninSS, o_ixs, o_join, o_isb, o_isn, o_notb, o_notn, in_int, in_non, in_tup, in_lst, in_str, in_bl, o_inI, o_inIt, o_ninI, o_ninIt, o_inS, o_inSt, o_lrg1, o_lrg2, o_trg1, o_popAtI, o_sortI, o_sortIt, o_extend, o_revL, o_zipl, o_zipt, o_rev, o_enum, wfp_nil, wfp_r, wfp_l, fo_n, fo_c, fo_b, fo_r, un_nil, un_c, re_nil, re_c, ov_nil, ov_c, kOk_0, kOk_1, kOk_2, kOk_n, o_minB2, o_maxB2, o_minBI, o_maxBI, o_minBt, o_maxBt, o_sortBI, o_sortBIt, o_dict1i, o_dict1s, o_dicK, o_dicT, nk_dt, nk_df, d_mut_dic, o_is_td, in_dic, o_is_tn, o_enumAl, o_enumAt, o_mulT, o_dT0, o_putT, nk_dT, mut_dT, List.map_cons, List.map_nil, List.length_cons, List.length_nil, List.replicate_succ, List.replicate_zero, List.cons_append, List.nil_append, List.append_nil, List.length_map, List.length_range, List.drop_succ_cons, List.drop_zero, List.zip_cons_cons, List.zip_nil_right, List.zip_nil_left, List.getElem?_cons_zero, List.getElem?_cons_succ, Option.join_some, Option.join_none, Option.map_some, Option.map_none, decide_true, decide_false, decide_not, Bool.not_true, Bool.not_false, Bool.not_not, Bool.true_and, Bool.false_and, Bool.and_true, Bool.and_false, true_and, and_true, false_and, and_false, not_true_eq_false, not_false_eq_true, if_true, if_false, reduceCtorEq, Option.some.injEq, and_self, mb_l, mb_r, Nat.reduceAdd, Nat.reducePow, Nat.reduceSub, Nat.reduceMul, Nat.reduceLT, Nat.reduceGT, Nat.reduceLeDiff, Nat.reduceEqDiff, Nat.reduceBEq, Nat.reduceBNe, Int.reduceAdd, Int.reduceSub, Int.reduceMul, Int.reduceNeg, Int.reduceDiv, Int.reduceMod, Int.reduceLT, Int.reduceLE, Int.reduceGT, Int.reduceGE, Int.reduceEq, Int.reduceNe, Int.reduceToNat, Int.reducePow, Int.reduceAbs, Int.reduceBEq, Int.reduceBNe, reduceIte, Nat.zero_add, Nat.sub_zero, Nat.add_zero, Int.natCast_one, Int.cast_ofNat_Int, a]
    simp [word, a])
/-! alike -/
def LI (n : Nat) (d : D) : Prop := F__law_is n [(d, 0), (d, 0)] = .ok (.bl true) none
theorem li_bl {n : Nat} {b : Bool} : LI (n + 1) (.bl b) := wp_of (by
  unfold F__law_is
  simp (disch := first | assumption | omega | (refine okR_int ?_ ?_ <;> omega) | exact OkE.str | (refine okE_of ?_ ?_ <;> (simp only [okE_tup, okE_lst, okEs_c, okEs_nil, okEs_ints, okE_int, okE_bl, okE_non, okE_str, okEs_app, Bool.and_self, Bool.and_true] <;> decide +kernel))) only [↓w_c, ↓w_var, ↓w_mv, ↓wa_nil, ↓wa_vw, ↓wa_ev, ↓wf_nil, ↓wf_l, ↓wf_r, ↓w_ap, ↓wi_nil, ↓wi_r, ↓w_apF, ↓wb_b, ↓w_tb, ↓w_tru, ↓tr1, ↓tr_bl, ↓tr_int, ↓tr_non, ↓tr_lst, ↓tr_tup, ↓w_not, ↓w_and, ↓w_or, ↓w_yes, ↓w_ife, ↓w_bl, ↓w_andV, ↓w_orV, ↓w_notV, ↓wn_i, ↓w_int, ↓w_chain, ↓hk_int, ↓hk_0, ↓hk_2, ↓hk_l, ↓hd_nil, ↓hd_l, ↓hd_r, ↓w_call, ↓w_callio, ↓is_l, ↓is_r, ↓is_s, ↓mk_nil, ↓mk_r, ↓mk_l, ↓ib_n, ↓ib_s, ↓ib_none, ↓wfl_n, ↓wfl_r, ↓w_run, ↓iv_n, ↓iv_z, ↓iv_s, ↓w_next, ↓w_break, ↓w_cont, ↓w_never, ↓wx_n, ↓wx_r, ↓wx_b, ↓wx_c, ↓w_seq, ↓w_set, ↓w_expr, ↓w_ret, ↓w_ifs, ↓wm_nil, ↓wm_c, ↓sm_nil, ↓sm_c, ↓w_par, ↓bt_n, ↓bt_t, ↓bt_l, ↓bts_n, ↓bts_c, ↓w_tgt, ↓w_it, ↓w_itV, ↓w_itF, ↓w_str, ↓w_itP, ↓w_for, ↓w_lc, ↓w_mut, ↓w_store, ↓st1, wp_ok, wp_no, wp_ex, br_t, br_f, br_not, gv_z, gv_s, sv_z, sv_s, nk_int, nk_bl, nk_str, nk_tup, nk_ro, nk_non, nk_lt, nk_lf, nk_f, kk_0, kk_1, wpo_some, wpo_none, wpo_map, wpo_bind, o_add, o_adds, o_addl, o_addt, o_sub, o_mul, o_mull, o_fd, o_md, o_pw, o_ng, o_lt, o_le, o_gt, o_ge, o_abs, o_int, o_intb, o_is_ti, o_is_tb, o_is_ts, o_is_tt, o_is_tl, o_tup, o_lst, o_lenl, o_lent, o_lenr, o_lens, o_ixl, o_ixt, o_ixr, ixL_o, ixL_m1, gRepr_ok, gEq_ok, gNe_ok, eqD_int, eqD_bl, eqD_non, eqD_tup, eqD_lst, eqD_str, eqDs_nil, eqDs_c, eqDs_cn, eqDs_nc, eqDs_ints, o_eqS, o_neS, o_eqI, o_neI, o_eqB, o_neB, o_allB, o_anyB, o_sumI, o_sumM, o_allM, o_anyM, o_max2, o_min2, o_maxI, o_minI, o_tuple, o_tuplet, o_list, o_listt, o_rng1, o_rng2, o_append, o_pop, o_set, wk_l, wk_t, wk_r, wk_s, mu_l, mu_d, d_mut_l, d_mut_i, d_mut_b, d_mut_s, d_mut_t, d_mut_n, ixN_o, List.set_cons_zero, List.set_cons_succ, List.getLast?_concat, o_sumAI, o_sumAM, o_sumAt, o_sumAt2, o_maxA2, o_minA2, o_maxAI, o_minAI, o_maxAt, o_minAt, o_inSS, o_ninSS, o_ixs, o_join, o_isb, o_isn, o_notb, o_notn, in_int, in_non, in_tup, in_lst, in_str, in_bl, o_inI, o_inIt, o_ninI, o_ninIt, o_inS, o_inSt, o_lrg1, o_lrg2, o_trg1, o_popAtI, o_sortI, o_sortIt, o_extend, o_revL, o_zipl, o_zipt, o_rev, o_enum, wfp_nil, wfp_r, wfp_l, fo_n, fo_c, fo_b, fo_r, un_nil, un_c, re_nil, re_c, ov_nil, ov_c, kOk_0, kOk_1, kOk_2, kOk_n, o_minB2, o_maxB2, o_minBI, o_maxBI, o_minBt, o_maxBt, o_sortBI, o_sortBIt, o_dict1i, o_dict1s, o_dicK, o_dicT, nk_dt, nk_df, d_mut_dic, o_is_td, in_dic, o_is_tn, o_enumAl, o_enumAt, o_mulT, o_dT0, o_putT, nk_dT, mut_dT, List.map_cons, List.map_nil, List.length_cons, List.length_nil, List.replicate_succ, List.replicate_zero, List.cons_append, List.nil_append, List.append_nil, List.length_map, List.length_range, List.drop_succ_cons, List.drop_zero, List.zip_cons_cons, List.zip_nil_right, List.zip_nil_left, List.getElem?_cons_zero, List.getElem?_cons_succ, Option.join_some, Option.join_none, Option.map_some, Option.map_none, decide_true, decide_false, decide_not, Bool.not_true, Bool.not_false, Bool.not_not, Bool.true_and, Bool.false_and, Bool.and_true, Bool.and_false, true_and, and_true, false_and, and_false, not_true_eq_false, not_false_eq_true, if_true, if_false, reduceCtorEq, Option.some.injEq, and_self, mb_l, mb_r, Nat.reduceAdd, Nat.reducePow, Nat.reduceSub, Nat.reduceMul, Nat.reduceLT, Nat.reduceGT, Nat.reduceLeDiff, Nat.reduceEqDiff, Nat.reduceBEq, Nat.reduceBNe, Int.reduceAdd, Int.reduceSub, Int.reduceMul, Int.reduceNeg, Int.reduceDiv, Int.reduceMod, Int.reduceLT, Int.reduceLE, Int.reduceGT, Int.reduceGE, Int.reduceEq, Int.reduceNe, Int.reduceToNat, Int.reducePow, Int.reduceAbs, Int.reduceBEq, Int.reduceBNe, reduceIte, Nat.zero_add, Nat.sub_zero, Nat.add_zero, Int.natCast_one, Int.cast_ofNat_Int, b__law_is])
theorem li_int {n : Nat} {b : Int} : LI (n + 1) (.int b) := wp_of (by
  unfold F__law_is
  simp (disch := first | assumption | omega | (refine okR_int ?_ ?_ <;> omega) | exact OkE.str | (refine okE_of ?_ ?_ <;> (simp only [okE_tup, okE_lst, okEs_c, okEs_nil, okEs_ints, okE_int, okE_bl, okE_non, okE_str, okEs_app, Bool.and_self, Bool.and_true] <;> decide +kernel))) only [↓w_c, ↓w_var, ↓w_mv, ↓wa_nil, ↓wa_vw, ↓wa_ev, ↓wf_nil, ↓wf_l, ↓wf_r, ↓w_ap, ↓wi_nil, ↓wi_r, ↓w_apF, ↓wb_b, ↓w_tb, ↓w_tru, ↓tr1, ↓tr_bl, ↓tr_int, ↓tr_non, ↓tr_lst, ↓tr_tup, ↓w_not, ↓w_and, ↓w_or, ↓w_yes, ↓w_ife, ↓w_bl, ↓w_andV, ↓w_orV, ↓w_notV, ↓wn_i, ↓w_int, ↓w_chain, ↓hk_int, ↓hk_0, ↓hk_2, ↓hk_l, ↓hd_nil, ↓hd_l, ↓hd_r, ↓w_call, ↓w_callio, ↓is_l, ↓is_r, ↓is_s, ↓mk_nil, ↓mk_r, ↓mk_l, ↓ib_n, ↓ib_s, ↓ib_none, ↓wfl_n, ↓wfl_r, ↓w_run, ↓iv_n, ↓iv_z, ↓iv_s, ↓w_next, ↓w_break, ↓w_cont, ↓w_never, ↓wx_n, ↓wx_r, ↓wx_b, ↓wx_c, ↓w_seq, ↓w_set, ↓w_expr, ↓w_ret, ↓w_ifs, ↓wm_nil, ↓wm_c, ↓sm_nil, ↓sm_c, ↓w_par, ↓bt_n, ↓bt_t, ↓bt_l, ↓bts_n, ↓bts_c, ↓w_tgt, ↓w_it, ↓w_itV, ↓w_itF, ↓w_str, ↓w_itP, ↓w_for, ↓w_lc, ↓w_mut, ↓w_store, ↓st1, wp_ok, wp_no, wp_ex, br_t, br_f, br_not, gv_z, gv_s, sv_z, sv_s, nk_int, nk_bl, nk_str, nk_tup, nk_ro, nk_non, nk_lt, nk_lf, nk_f, kk_0, kk_1, wpo_some, wpo_none, wpo_map, wpo_bind, o_add, o_adds, o_addl, o_addt, o_sub, o_mul, o_mull, o_fd, o_md, o_pw, o_ng, o_lt, o_le, o_gt, o_ge, o_abs, o_int, o_intb, o_is_ti, o_is_tb, o_is_ts, o_is_tt, o_is_tl, o_tup, o_lst, o_lenl, o_lent, o_lenr, o_lens, o_ixl, o_ixt, o_ixr, ixL_o, ixL_m1, gRepr_ok, gEq_ok, gNe_ok, eqD_int, eqD_bl, eqD_non, eqD_tup, eqD_lst, eqD_str, eqDs_nil, eqDs_c, eqDs_cn, eqDs_nc, eqDs_ints, o_eqS, o_neS, o_eqI, o_neI, o_eqB, o_neB, o_allB, o_anyB, o_sumI, o_sumM, o_allM, o_anyM, o_max2, o_min2, o_maxI, o_minI, o_tuple, o_tuplet, o_list, o_listt, o_rng1, o_rng2, o_append, o_pop, o_set, wk_l, wk_t, wk_r, wk_s, mu_l, mu_d, d_mut_l, d_mut_i, d_mut_b, d_mut_s, d_mut_t, d_mut_n, ixN_o, List.set_cons_zero, List.set_cons_succ, List.getLast?_concat, o_sumAI, o_sumAM, o_sumAt, o_sumAt2, o_maxA2, o_minA2, o_maxAI, o_minAI, o_maxAt, o_minAt, o_inSS, o_ninSS, o_ixs, o_join, o_isb, o_isn, o_notb, o_notn, in_int, in_non, in_tup, in_lst, in_str, in_bl, o_inI, o_inIt, o_ninI, o_ninIt, o_inS, o_inSt, o_lrg1, o_lrg2, o_trg1, o_popAtI, o_sortI, o_sortIt, o_extend, o_revL, o_zipl, o_zipt, o_rev, o_enum, wfp_nil, wfp_r, wfp_l, fo_n, fo_c, fo_b, fo_r, un_nil, un_c, re_nil, re_c, ov_nil, ov_c, kOk_0, kOk_1, kOk_2, kOk_n, o_minB2, o_maxB2, o_minBI, o_maxBI, o_minBt, o_maxBt, o_sortBI, o_sortBIt, o_dict1i, o_dict1s, o_dicK, o_dicT, nk_dt, nk_df, d_mut_dic, o_is_td, in_dic, o_is_tn, o_enumAl, o_enumAt, o_mulT, o_dT0, o_putT, nk_dT, mut_dT, List.map_cons, List.map_nil, List.length_cons, List.length_nil, List.replicate_succ, List.replicate_zero, List.cons_append, List.nil_append, List.append_nil, List.length_map, List.length_range, List.drop_succ_cons, List.drop_zero, List.zip_cons_cons, List.zip_nil_right, List.zip_nil_left, List.getElem?_cons_zero, List.getElem?_cons_succ, Option.join_some, Option.join_none, Option.map_some, Option.map_none, decide_true, decide_false, decide_not, Bool.not_true, Bool.not_false, Bool.not_not, Bool.true_and, Bool.false_and, Bool.and_true, Bool.and_false, true_and, and_true, false_and, and_false, not_true_eq_false, not_false_eq_true, if_true, if_false, reduceCtorEq, Option.some.injEq, and_self, mb_l, mb_r, Nat.reduceAdd, Nat.reducePow, Nat.reduceSub, Nat.reduceMul, Nat.reduceLT, Nat.reduceGT, Nat.reduceLeDiff, Nat.reduceEqDiff, Nat.reduceBEq, Nat.reduceBNe, Int.reduceAdd, Int.reduceSub, Int.reduceMul, Int.reduceNeg, Int.reduceDiv, Int.reduceMod, Int.reduceLT, Int.reduceLE, Int.reduceGT, Int.reduceGE, Int.reduceEq, Int.reduceNe, Int.reduceToNat, Int.reducePow, Int.reduceAbs, Int.reduceBEq, Int.reduceBNe, reduceIte, Nat.zero_add, Nat.sub_zero, Nat.add_zero, Int.natCast_one, Int.cast_ofNat_Int, b__law_is])
theorem li_str {n : Nat} {b : Str} (h : PyData.strOk b = true) : LI (n + 1) (.str b) := wp_of (by
  unfold F__law_is
  simp (disch := first | assumption | omega | (refine okR_int ?_ ?_ <;> omega) | exact OkE.str | (refine okE_of ?_ ?_ <;> (simp only [okE_tup, okE_lst, okEs_c, okEs_nil, okEs_ints, okE_int, okE_bl, okE_non, okE_str, okEs_app, Bool.and_self, Bool.and_true] <;> decide +kernel))) only [↓w_c, ↓w_var, ↓w_mv, ↓wa_nil, ↓wa_vw, ↓wa_ev, ↓wf_nil, ↓wf_l, ↓wf_r, ↓w_ap, ↓wi_nil, ↓wi_r, ↓w_apF, ↓wb_b, ↓w_tb, ↓w_tru, ↓tr1, ↓tr_bl, ↓tr_int, ↓tr_non, ↓tr_lst, ↓tr_tup, ↓w_not, ↓w_and, ↓w_or, ↓w_yes, ↓w_ife, ↓w_bl, ↓w_andV, ↓w_orV, ↓w_notV, ↓wn_i, ↓w_int, ↓w_chain, ↓hk_int, ↓hk_0, ↓hk_2, ↓hk_l, ↓hd_nil, ↓hd_l, ↓hd_r, ↓w_call, ↓w_callio, ↓is_l, ↓is_r, ↓is_s, ↓mk_nil, ↓mk_r, ↓mk_l, ↓ib_n, ↓ib_s, ↓ib_none, ↓wfl_n, ↓wfl_r, ↓w_run, ↓iv_n, ↓iv_z, ↓iv_s, ↓w_next, ↓w_break, ↓w_cont, ↓w_never, ↓wx_n, ↓wx_r, ↓wx_b, ↓wx_c, ↓w_seq, ↓w_set, ↓w_expr, ↓w_ret, ↓w_ifs, ↓wm_nil, ↓wm_c, ↓sm_nil, ↓sm_c, ↓w_par, ↓bt_n, ↓bt_t, ↓bt_l, ↓bts_n, ↓bts_c, ↓w_tgt, ↓w_it, ↓w_itV, ↓w_itF, ↓w_str, ↓w_itP, ↓w_for, ↓w_lc, ↓w_mut, ↓w_store, ↓st1, wp_ok, wp_no, wp_ex, br_t, br_f, br_not, gv_z, gv_s, sv_z, sv_s, nk_int, nk_bl, nk_str, nk_tup, nk_ro, nk_non, nk_lt, nk_lf, nk_f, kk_0, kk_1, wpo_some, wpo_none, wpo_map, wpo_bind, o_add, o_adds, o_addl, o_addt, o_sub, o_mul, o_mull, o_fd, o_md, o_pw, o_ng, o_lt, o_le, o_gt, o_ge, o_abs, o_int, o_intb, o_is_ti, o_is_tb, o_is_ts, o_is_tt, o_is_tl, o_tup, o_lst, o_lenl, o_lent, o_lenr, o_lens, o_ixl, o_ixt, o_ixr, ixL_o, ixL_m1, gRepr_ok, gEq_ok, gNe_ok, eqD_int, eqD_bl, eqD_non, eqD_tup, eqD_lst, eqD_str, eqDs_nil, eqDs_c, eqDs_cn, eqDs_nc, eqDs_ints, o_eqS, o_neS, o_eqI, o_neI, o_eqB, o_neB, o_allB, o_anyB, o_sumI, o_sumM, o_allM, o_anyM, o_max2, o_min2, o_maxI, o_minI, o_tuple, o_tuplet, o_list, o_listt, o_rng1, o_rng2, o_append, o_pop, o_set, wk_l, wk_t, wk_r, wk_s, mu_l, mu_d, d_mut_l, d_mut_i, d_mut_b, d_mut_s, d_mut_t, d_mut_n, ixN_o, List.set_cons_zero, List.set_cons_succ, List.getLast?_concat, o_sumAI, o_sumAM, o_sumAt, o_sumAt2, o_maxA2, o_minA2, o_maxAI, o_minAI, o_maxAt, o_minAt, o_inSS, o_ninSS, o_ixs, o_join, o_isb, o_isn, o_notb, o_notn, in_int, in_non, in_tup, in_lst, in_str, in_bl, o_inI, o_inIt, o_ninI, o_ninIt, o_inS, o_inSt, o_lrg1, o_lrg2, o_trg1, o_popAtI, o_sortI, o_sortIt, o_extend, o_revL, o_zipl, o_zipt, o_rev, o_enum, wfp_nil, wfp_r, wfp_l, fo_n, fo_c, fo_b, fo_r, un_nil, un_c, re_nil, re_c, ov_nil, ov_c, kOk_0, kOk_1, kOk_2, kOk_n, o_minB2, o_maxB2, o_minBI, o_maxBI, o_minBt, o_maxBt, o_sortBI, o_sortBIt, o_dict1i, o_dict1s, o_dicK, o_dicT, nk_dt, nk_df, d_mut_dic, o_is_td, in_dic, o_is_tn, o_enumAl, o_enumAt, o_mulT, o_dT0, o_putT, nk_dT, mut_dT, List.map_cons, List.map_nil, List.length_cons, List.length_nil, List.replicate_succ, List.replicate_zero, List.cons_append, List.nil_append, List.append_nil, List.length_map, List.length_range, List.drop_succ_cons, List.drop_zero, List.zip_cons_cons, List.zip_nil_right, List.zip_nil_left, List.getElem?_cons_zero, List.getElem?_cons_succ, Option.join_some, Option.join_none, Option.map_some, Option.map_none, decide_true, decide_false, decide_not, Bool.not_true, Bool.not_false, Bool.not_not, Bool.true_and, Bool.false_and, Bool.and_true, Bool.and_false, true_and, and_true, false_and, and_false, not_true_eq_false, not_false_eq_true, if_true, if_false, reduceCtorEq, Option.some.injEq, and_self, mb_l, mb_r, Nat.reduceAdd, Nat.reducePow, Nat.reduceSub, Nat.reduceMul, Nat.reduceLT, Nat.reduceGT, Nat.reduceLeDiff, Nat.reduceEqDiff, Nat.reduceBEq, Nat.reduceBNe, Int.reduceAdd, Int.reduceSub, Int.reduceMul, Int.reduceNeg, Int.reduceDiv, Int.reduceMod, Int.reduceLT, Int.reduceLE, Int.reduceGT, Int.reduceGE, Int.reduceEq, Int.reduceNe, Int.reduceToNat, Int.reducePow, Int.reduceAbs, Int.reduceBEq, Int.reduceBNe, reduceIte, Nat.zero_add, Nat.sub_zero, Nat.add_zero, Int.natCast_one, Int.cast_ofNat_Int, b__law_is])
theorem zip_self : ∀ xs : List D, zipD xs xs = xs.map fun x => .tup [x, x]
  | [] => rfl
  | x :: xs => by rw [zipD, zip_self xs]; rfl
theorem li_tup {n : Nat} {xs : List D} (l : xs.length ≤ 100000) (h : ∀ x ∈ xs, LI n x) : LI (n + 1) (.tup xs) := wp_of (by
  unfold F__law_is
  simp (disch := first | assumption | omega | (refine okR_int ?_ ?_ <;> omega) | exact OkE.str | (refine okE_of ?_ ?_ <;> (simp only [okE_tup, okE_lst, okEs_c, okEs_nil, okEs_ints, okE_int, okE_bl, okE_non, okE_str, okEs_app, Bool.and_self, Bool.and_true] <;> decide +kernel))) only [↓w_c, ↓w_var, ↓w_mv, ↓wa_nil, ↓wa_vw, ↓wa_ev, ↓wf_nil, ↓wf_l, ↓wf_r, ↓w_ap, ↓wi_nil, ↓wi_r, ↓w_apF, ↓wb_b, ↓w_tb, ↓w_tru, ↓tr1, ↓tr_bl, ↓tr_int, ↓tr_non, ↓tr_lst, ↓tr_tup, ↓w_not, ↓w_and, ↓w_or, ↓w_yes, ↓w_ife, ↓w_bl, ↓w_andV, ↓w_orV, ↓w_notV, ↓wn_i, ↓w_int, ↓w_chain, ↓hk_int, ↓hk_0, ↓hk_2, ↓hk_l, ↓hd_nil, ↓hd_l, ↓hd_r, ↓w_call, ↓w_callio, ↓is_l, ↓is_r, ↓is_s, ↓mk_nil, ↓mk_r, ↓mk_l, ↓ib_n, ↓ib_s, ↓ib_none, ↓wfl_n, ↓wfl_r, ↓w_run, ↓iv_n, ↓iv_z, ↓iv_s, ↓w_next, ↓w_break, ↓w_cont, ↓w_never, ↓wx_n, ↓wx_r, ↓wx_b, ↓wx_c, ↓w_seq, ↓w_set, ↓w_expr, ↓w_ret, ↓w_ifs, ↓wm_nil, ↓wm_c, ↓sm_nil, ↓sm_c, ↓w_par, ↓bt_n, ↓bt_t, ↓bt_l, ↓bts_n, ↓bts_c, ↓w_tgt, ↓w_it, ↓w_itV, ↓w_itF, ↓w_str, ↓w_itP, ↓w_for, ↓w_lc, ↓w_mut, ↓w_store, ↓st1, wp_ok, wp_no, wp_ex, br_t, br_f, br_not, gv_z, gv_s, sv_z, sv_s, nk_int, nk_bl, nk_str, nk_tup, nk_ro, nk_non, nk_lt, nk_lf, nk_f, kk_0, kk_1, wpo_some, wpo_none, wpo_map, wpo_bind, o_add, o_adds, o_addl, o_addt, o_sub, o_mul, o_mull, o_fd, o_md, o_pw, o_ng, o_lt, o_le, o_gt, o_ge, o_abs, o_int, o_intb, o_is_ti, o_is_tb, o_is_ts, o_is_tt, o_is_tl, o_tup, o_lst, o_lenl, o_lent, o_lenr, o_lens, o_ixl, o_ixt, o_ixr, ixL_o, ixL_m1, gRepr_ok, gEq_ok, gNe_ok, eqD_int, eqD_bl, eqD_non, eqD_tup, eqD_lst, eqD_str, eqDs_nil, eqDs_c, eqDs_cn, eqDs_nc, eqDs_ints, o_eqS, o_neS, o_eqI, o_neI, o_eqB, o_neB, o_allB, o_anyB, o_sumI, o_sumM, o_allM, o_anyM, o_max2, o_min2, o_maxI, o_minI, o_tuple, o_tuplet, o_list, o_listt, o_rng1, o_rng2, o_append, o_pop, o_set, wk_l, wk_t, wk_r, wk_s, mu_l, mu_d, d_mut_l, d_mut_i, d_mut_b, d_mut_s, d_mut_t, d_mut_n, ixN_o, List.set_cons_zero, List.set_cons_succ, List.getLast?_concat, o_sumAI, o_sumAM, o_sumAt, o_sumAt2, o_maxA2, o_minA2, o_maxAI, o_minAI, o_maxAt, o_minAt, o_inSS, o_ninSS, o_ixs, o_join, o_isb, o_isn, o_notb, o_notn, in_int, in_non, in_tup, in_lst, in_str, in_bl, o_inI, o_inIt, o_ninI, o_ninIt, o_inS, o_inSt, o_lrg1, o_lrg2, o_trg1, o_popAtI, o_sortI, o_sortIt, o_extend, o_revL, o_zipl, o_zipt, o_rev, o_enum, wfp_nil, wfp_r, wfp_l, fo_n, fo_c, fo_b, fo_r, un_nil, un_c, re_nil, re_c, ov_nil, ov_c, kOk_0, kOk_1, kOk_2, kOk_n, o_minB2, o_maxB2, o_minBI, o_maxBI, o_minBt, o_maxBt, o_sortBI, o_sortBIt, o_dict1i, o_dict1s, o_dicK, o_dicT, nk_dt, nk_df, d_mut_dic, o_is_td, in_dic, o_is_tn, o_enumAl, o_enumAt, o_mulT, o_dT0, o_putT, nk_dT, mut_dT, List.map_cons, List.map_nil, List.length_cons, List.length_nil, List.replicate_succ, List.replicate_zero, List.cons_append, List.nil_append, List.append_nil, List.length_map, List.length_range, List.drop_succ_cons, List.drop_zero, List.zip_cons_cons, List.zip_nil_right, List.zip_nil_left, List.getElem?_cons_zero, List.getElem?_cons_succ, Option.join_some, Option.join_none, Option.map_some, Option.map_none, decide_true, decide_false, decide_not, Bool.not_true, Bool.not_false, Bool.not_not, Bool.true_and, Bool.false_and, Bool.and_true, Bool.and_false, true_and, and_true, false_and, and_false, not_true_eq_false, not_false_eq_true, if_true, if_false, reduceCtorEq, Option.some.injEq, and_self, mb_l, mb_r, Nat.reduceAdd, Nat.reducePow, Nat.reduceSub, Nat.reduceMul, Nat.reduceLT, Nat.reduceGT, Nat.reduceLeDiff, Nat.reduceEqDiff, Nat.reduceBEq, Nat.reduceBNe, Int.reduceAdd, Int.reduceSub, Int.reduceMul, Int.reduceNeg, Int.reduceDiv, Int.reduceMod, Int.reduceLT, Int.reduceLE, Int.reduceGT, Int.reduceGE, Int.reduceEq, Int.reduceNe, Int.reduceToNat, Int.reducePow, Int.reduceAbs, Int.reduceBEq, Int.reduceBNe, reduceIte, Nat.zero_add, Nat.sub_zero, Nat.add_zero, Int.natCast_one, Int.cast_ofNat_Int, b__law_is, zip_self]
  refine ⟨by omega, ?_⟩
  refine wp_lcM (g := fun _ => .bl true) ?_ ?_
  · intro x hx
    have e := h x hx
    unfold LI at e
    simp (disch := first | assumption | omega | (refine okR_int ?_ ?_ <;> omega) | exact OkE.str | (refine okE_of ?_ ?_ <;> (simp only [okE_tup, okE_lst, okEs_c, okEs_nil, okEs_ints, okE_int, okE_bl, okE_non, okE_str, okEs_app, Bool.and_self, Bool.and_true] <;> decide +kernel))) only [↓w_c, ↓w_var, ↓w_mv, ↓wa_nil, ↓wa_vw, ↓wa_ev, ↓wf_nil, ↓wf_l, ↓wf_r, ↓w_ap, ↓wi_nil, ↓wi_r, ↓w_apF, ↓wb_b, ↓w_tb, ↓w_tru, ↓tr1, ↓tr_bl, ↓tr_int, ↓tr_non, ↓tr_lst, ↓tr_tup, ↓w_not, ↓w_and, ↓w_or, ↓w_yes, ↓w_ife, ↓w_bl, ↓w_andV, ↓w_orV, ↓w_notV, ↓wn_i, ↓w_int, ↓w_chain, ↓hk_int, ↓hk_0, ↓hk_2, ↓hk_l, ↓hd_nil, ↓hd_l, ↓hd_r, ↓w_call, ↓w_callio, ↓is_l, ↓is_r, ↓is_s, ↓mk_nil, ↓mk_r, ↓mk_l, ↓ib_n, ↓ib_s, ↓ib_none, ↓wfl_n, ↓wfl_r, ↓w_run, ↓iv_n, ↓iv_z, ↓iv_s, ↓w_next, ↓w_break, ↓w_cont, ↓w_never, ↓wx_n, ↓wx_r, ↓wx_b, ↓wx_c, ↓w_seq, ↓w_set, ↓w_expr, ↓w_ret, ↓w_ifs, ↓wm_nil, ↓wm_c, ↓sm_nil, ↓sm_c, ↓w_par, ↓bt_n, ↓bt_t, ↓bt_l, ↓bts_n, ↓bts_c, ↓w_tgt, ↓w_it, ↓w_itV, ↓w_itF, ↓w_str, ↓w_itP, ↓w_for, ↓w_lc, ↓w_mut, ↓w_store, ↓st1, wp_ok, wp_no, wp_ex, br_t, br_f, br_not, gv_z, gv_s, sv_z, sv_s, nk_int, nk_bl, nk_str, nk_tup, nk_ro, nk_non, nk_lt, nk_lf, nk_f, kk_0, kk_1, wpo_some, wpo_none, wpo_map, wpo_bind, o_add, o_adds, o_addl, o_addt, o_sub, o_mul, o_mull, o_fd, o_md, o_pw, o_ng, o_lt, o_le, o_gt, o_ge, o_abs, o_int, o_intb, o_is_ti, o_is_tb, o_is_ts, o_is_tt, o_is_tl, o_tup, o_lst, o_lenl, o_lent, o_lenr, o_lens, o_ixl, o_ixt, o_ixr, ixL_o, ixL_m1, gRepr_ok, gEq_ok, gNe_ok, eqD_int, eqD_bl, eqD_non, eqD_tup, eqD_lst, eqD_str, eqDs_nil, eqDs_c, eqDs_cn, eqDs_nc, eqDs_ints, o_eqS, o_neS, o_eqI, o_neI, o_eqB, o_neB, o_allB, o_anyB, o_sumI, o_sumM, o_allM, o_anyM, o_max2, o_min2, o_maxI, o_minI, o_tuple, o_tuplet, o_list, o_listt, o_rng1, o_rng2, o_append, o_pop, o_set, wk_l, wk_t, wk_r, wk_s, mu_l, mu_d, d_mut_l, d_mut_i, d_mut_b, d_mut_s, d_mut_t, d_mut_n, ixN_o, List.set_cons_zero, List.set_cons_succ, List.getLast?_concat, o_sumAI, o_sumAM, o_sumAt, o_sumAt2, o_maxA2, o_minA2, o_maxAI, o_minAI, o_maxAt, o_minAt, o_inSS, o_ninSS, o_ixs, o_join, o_isb, o_isn, o_notb, o_notn, in_int, in_non, in_tup, in_lst, in_str, in_bl, o_inI, o_inIt, o_ninI, o_ninIt, o_inS, o_inSt, o_lrg1, o_lrg2, o_trg1, o_popAtI, o_sortI, o_sortIt, o_extend, o_revL, o_zipl, o_zipt, o_rev, o_enum, wfp_nil, wfp_r, wfp_l, fo_n, fo_c, fo_b, fo_r, un_nil, un_c, re_nil, re_c, ov_nil, ov_c, kOk_0, kOk_1, kOk_2, kOk_n, o_minB2, o_maxB2, o_minBI, o_maxBI, o_minBt, o_maxBt, o_sortBI, o_sortBIt, o_dict1i, o_dict1s, o_dicK, o_dicT, nk_dt, nk_df, d_mut_dic, o_is_td, in_dic, o_is_tn, o_enumAl, o_enumAt, o_mulT, o_dT0, o_putT, nk_dT, mut_dT, List.map_cons, List.map_nil, List.length_cons, List.length_nil, List.replicate_succ, List.replicate_zero, List.cons_append, List.nil_append, List.append_nil, List.length_map, List.length_range, List.drop_succ_cons, List.drop_zero, List.zip_cons_cons, List.zip_nil_right, List.zip_nil_left, List.getElem?_cons_zero, List.getElem?_cons_succ, Option.join_some, Option.join_none, Option.map_some, Option.map_none, decide_true, decide_false, decide_not, Bool.not_true, Bool.not_false, Bool.not_not, Bool.true_and, Bool.false_and, Bool.and_true, Bool.and_false, true_and, and_true, false_and, and_false, not_true_eq_false, not_false_eq_true, if_true, if_false, reduceCtorEq, Option.some.injEq, and_self, mb_l, mb_r, Nat.reduceAdd, Nat.reducePow, Nat.reduceSub, Nat.reduceMul, Nat.reduceLT, Nat.reduceGT, Nat.reduceLeDiff, Nat.reduceEqDiff, Nat.reduceBEq, Nat.reduceBNe, Int.reduceAdd, Int.reduceSub, Int.reduceMul, Int.reduceNeg, Int.reduceDiv, Int.reduceMod, Int.reduceLT, Int.reduceLE, Int.reduceGT, Int.reduceGE, Int.reduceEq, Int.reduceNe, Int.reduceToNat, Int.reducePow, Int.reduceAbs, Int.reduceBEq, Int.reduceBNe, reduceIte, Nat.zero_add, Nat.sub_zero, Nat.add_zero, Int.natCast_one, Int.cast_ofNat_Int, e]
  · have a : (xs.all fun _ => true) = true := by simp
    have e2 := o_allM (f := fun _ : D => true) (xs := xs)
    rw [a] at e2
    simp (disch := first | assumption | omega | (refine okR_int ?_ ?_ <;> omega) | exact OkE.str | (refine okE_of ?_ ?_ <;> (simp only [okE_tup, okE_lst, okEs_c, okEs_nil, okEs_ints, okE_int, okE_bl, okE_non, okE_str, okEs_app, Bool.and_self, Bool.and_true] <;> decide +kernel))) only [↓w_c, ↓w_var, ↓w_mv, ↓wa_nil, ↓wa_vw, ↓wa_ev, ↓wf_nil, ↓wf_l, ↓wf_r, ↓w_ap, ↓wi_nil, ↓wi_r, ↓w_apF, ↓wb_b, ↓w_tb, ↓w_tru, ↓tr1, ↓tr_bl, ↓tr_int, ↓tr_non, ↓tr_lst, ↓tr_tup, ↓w_not, ↓w_and, ↓w_or, ↓w_yes, ↓w_ife, ↓w_bl, ↓w_andV, ↓w_orV, ↓w_notV, ↓wn_i, ↓w_int, ↓w_chain, ↓hk_int, ↓hk_0, ↓hk_2, ↓hk_l, ↓hd_nil, ↓hd_l, ↓hd_r, ↓w_call, ↓w_callio, ↓is_l, ↓is_r, ↓is_s, ↓mk_nil, ↓mk_r, ↓mk_l, ↓ib_n, ↓ib_s, ↓ib_none, ↓wfl_n, ↓wfl_r, ↓w_run, ↓iv_n, ↓iv_z, ↓iv_s, ↓w_next, ↓w_break, ↓w_cont, ↓w_never, ↓wx_n, ↓wx_r, ↓wx_b, ↓wx_c, ↓w_seq, ↓w_set, ↓w_expr, ↓w_ret, ↓w_ifs, ↓wm_nil, ↓wm_c, ↓sm_nil, ↓sm_c, ↓w_par, ↓bt_n, ↓bt_t, ↓bt_l, ↓bts_n, ↓bts_c, ↓w_tgt, ↓w_it, ↓w_itV, ↓w_itF, ↓w_str, ↓w_itP, ↓w_for, ↓w_lc, ↓w_mut, ↓w_store, ↓st1, wp_ok, wp_no, wp_ex, br_t, br_f, br_not, gv_z, gv_s, sv_z, sv_s, nk_int, nk_bl, nk_str, nk_tup, nk_ro, nk_non, nk_lt, nk_lf, nk_f, kk_0, kk_1, wpo_some, wpo_none, wpo_map, wpo_bind, o_add, o_adds, o_addl, o_addt, o_sub, o_mul, o_mull, o_fd, o_md, o_pw, o_ng, o_lt, o_le, o_gt, o_ge, o_abs, o_int, o_intb, o_is_ti, o_is_tb, o_is_ts, o_is_tt, o_is_tl, o_tup, o_lst, o_lenl, o_lent, o_lenr, o_lens, o_ixl, o_ixt, o_ixr, ixL_o, ixL_m1, gRepr_ok, gEq_ok, gNe_ok, eqD_int, eqD_bl, eqD_non, eqD_tup, eqD_lst, eqD_str, eqDs_nil, eqDs_c, eqDs_cn, eqDs_nc, eqDs_ints, o_eqS, o_neS, o_eqI, o_neI, o_eqB, o_neB, o_allB, o_anyB, o_sumI, o_sumM, o_allM, o_anyM, o_max2, o_min2, o_maxI, o_minI, o_tuple, o_tuplet, o_list, o_listt, o_rng1, o_rng2, o_append, o_pop, o_set, wk_l, wk_t, wk_r, wk_s, mu_l, mu_d, d_mut_l, d_mut_i, d_mut_b, d_mut_s, d_mut_t, d_mut_n, ixN_o, List.set_cons_zero, List.set_cons_succ, List.getLast?_concat, o_sumAI, o_sumAM, o_sumAt, o_sumAt2, o_maxA2, o_minA2, o_maxAI, o_minAI, o_maxAt, o_minAt, o_inSS, o_ninSS, o_ixs, o_join, o_isb, o_isn, o_notb, o_notn, in_int, in_non, in_tup, in_lst, in_str, in_bl, o_inI, o_inIt, o_ninI, o_ninIt, o_inS, o_inSt, o_lrg1, o_lrg2, o_trg1, o_popAtI, o_sortI, o_sortIt, o_extend, o_revL, o_zipl, o_zipt, o_rev, o_enum, wfp_nil, wfp_r, wfp_l, fo_n, fo_c, fo_b, fo_r, un_nil, un_c, re_nil, re_c, ov_nil, ov_c, kOk_0, kOk_1, kOk_2, kOk_n, o_minB2, o_maxB2, o_minBI, o_maxBI, o_minBt, o_maxBt, o_sortBI, o_sortBIt, o_dict1i, o_dict1s, o_dicK, o_dicT, nk_dt, nk_df, d_mut_dic, o_is_td, in_dic, o_is_tn, o_enumAl, o_enumAt, o_mulT, o_dT0, o_putT, nk_dT, mut_dT, List.map_cons, List.map_nil, List.length_cons, List.length_nil, List.replicate_succ, List.replicate_zero, List.cons_append, List.nil_append, List.append_nil, List.length_map, List.length_range, List.drop_succ_cons, List.drop_zero, List.zip_cons_cons, List.zip_nil_right, List.zip_nil_left, List.getElem?_cons_zero, List.getElem?_cons_succ, Option.join_some, Option.join_none, Option.map_some, Option.map_none, decide_true, decide_false, decide_not, Bool.not_true, Bool.not_false, Bool.not_not, Bool.true_and, Bool.false_and, Bool.and_true, Bool.and_false, true_and, and_true, false_and, and_false, not_true_eq_false, not_false_eq_true, if_true, if_false, reduceCtorEq, Option.some.injEq, and_self, mb_l, mb_r, Nat.reduceAdd, Nat.reducePow, Nat.reduceSub, Nat.reduceMul, Nat.reduceLT, Nat.reduceGT, Nat.reduceLeDiff, Nat.reduceEqDiff, Nat.reduceBEq, Nat.reduceBNe, Int.reduceAdd, Int.reduceSub, Int.reduceMul, Int.reduceNeg, Int.reduceDiv, Int.reduceMod, Int.reduceLT, Int.reduceLE, Int.reduceGT, Int.reduceGE, Int.reduceEq, Int.reduceNe, Int.reduceToNat, Int.reducePow, Int.reduceAbs, Int.reduceBEq, Int.reduceBNe, reduceIte, Nat.zero_add, Nat.sub_zero, Nat.add_zero, Int.natCast_one, Int.cast_ofNat_Int, e2])
theorem li_e2 {n : Nat} (p : Int × Int) : LI (n + 2) (e2 p) := li_tup (n := n + 1) (by simp) fun x hx => by
  simp only [List.mem_cons, List.not_mem_nil, or_false] at hx
  rcases hx with rfl | rfl <;> exact li_int
/-! what is folded alike -/
theorem fo_bd {x w : Int} (h : 1 ≤ w) : 0 ≤ fo x w ∧ fo x w ≤ w := by
  have a := Int.emod_nonneg x (show 2 * w ≠ 0 by omega)
  have b := Int.emod_lt_of_pos x (show 0 < 2 * w by omega)
  unfold fo
  split <;> omega
theorem fo_eq {x y w : Int} (hw : 1 ≤ w) (h : fo x w = fo y w) : 2 * w ∣ x - y ∨ 2 * w ∣ x + y := by
  have a := Int.emod_nonneg x (show 2 * w ≠ 0 by omega)
  have b := Int.emod_lt_of_pos x (show 0 < 2 * w by omega)
  have c := Int.emod_nonneg y (show 2 * w ≠ 0 by omega)
  have d := Int.emod_lt_of_pos y (show 0 < 2 * w by omega)
  have k : x % (2 * w) = y % (2 * w) ∨ x % (2 * w) + y % (2 * w) = 2 * w := by
    unfold fo at h
    split at h <;> split at h <;> omega
  rcases k with k | k
  · left
    exact Int.dvd_of_emod_eq_zero (Int.emod_eq_emod_iff_emod_sub_eq_zero.mp k)
  · right
    refine Int.dvd_of_emod_eq_zero ?_
    rw [Int.add_emod, k, Int.emod_self]
theorem fo_side {x w : Int} (hw : 1 ≤ w) : (fo x w = 0 ∨ fo x w = w) ↔ x % w = 0 := by
  have a := Int.emod_nonneg x (show 2 * w ≠ 0 by omega)
  have b := Int.emod_lt_of_pos x (show 0 < 2 * w by omega)
  have e : x % (2 * w) % w = x % w := Int.emod_emod_of_dvd x (Int.dvd_mul_left 2 w)
  rw [← e]
  unfold fo
  generalize x % (2 * w) = r at a b
  have f : r % w = if r < w then r else r - w := by
    split
    · exact Int.emod_eq_of_lt a (by assumption)
    · rw [show r % w = (r - w) % w by rw [Int.sub_emod, Int.emod_self, Int.sub_zero, Int.emod_emod]]
      exact Int.emod_eq_of_lt (by omega) (by omega)
  rw [f]
  split <;> split <;> omega
theorem ls_lcm (W H : Nat) : ls W H = (Nat.lcm W H : Nat) := by
  unfold ls gd
  rw [Int.gcd_natCast_natCast, ← Int.natCast_mul, ← Int.natCast_ediv]
  rfl
theorem far0 {W H : Nat} (hW : 1 ≤ W) (hH : 1 ≤ H) {x : Int} (a : 2 * (W : Int) ∣ x) (b : 2 * (H : Int) ∣ x) (c : -(2 * ls W H) < x) (d : x < 2 * ls W H) : x = 0 := by
  rw [ls_lcm] at c d
  have a' : 2 * W ∣ x.natAbs := by
    have := Int.natAbs_dvd_natAbs.mpr a
    rwa [show (2 * (W : Int)).natAbs = 2 * W by omega] at this
  have b' : 2 * H ∣ x.natAbs := by
    have := Int.natAbs_dvd_natAbs.mpr b
    rwa [show (2 * (H : Int)).natAbs = 2 * H by omega] at this
  have e := Nat.lcm_dvd a' b'
  rw [Nat.lcm_mul_left] at e
  have z := Nat.eq_zero_of_dvd_of_lt e (by omega)
  omega
theorem apart {W H : Nat} (hW : 1 ≤ W) (hH : 1 ≤ H) {s t : Int} (h0 : 0 < s) (h1 : s < t) (h2 : t < ls W H) (cd : t % (W : Int) = 0 ∨ t % (H : Int) = 0) : ¬ (fo t W = fo s W ∧ fo t H = fo s H) := by
  rintro ⟨e1, e2⟩
  have mm : ¬ (2 * (W : Int) ∣ t - s ∧ 2 * (H : Int) ∣ t - s) := fun ⟨p, q⟩ => by
    have := far0 hW hH p q (by omega) (by omega)
    omega
  have pp : ¬ (2 * (W : Int) ∣ t + s ∧ 2 * (H : Int) ∣ t + s) := fun ⟨p, q⟩ => by
    have := far0 hW hH p q (by omega) (by omega)
    omega
  have tw : ∀ {n : Int}, t % n = 0 → (2 * n ∣ t - s ↔ 2 * n ∣ t + s) := fun {n} z => by
    have dv : 2 * n ∣ 2 * t := Int.mul_dvd_mul_left 2 (Int.dvd_of_emod_eq_zero z)
    constructor
    · intro p
      have := Int.dvd_sub dv p
      rwa [show 2 * t - (t - s) = t + s by omega] at this
    · intro p
      have := Int.dvd_sub dv p
      rwa [show 2 * t - (t + s) = t - s by omega] at this
  rcases fo_eq (by omega) e1 with p | p <;> rcases fo_eq (by omega) e2 with q | q
  · exact mm ⟨p, q⟩
  · rcases cd with z | z
    · exact pp ⟨(tw z).mp p, q⟩
    · exact mm ⟨p, (tw z).mpr q⟩
  · rcases cd with z | z
    · exact mm ⟨(tw z).mpr p, q⟩
    · exact pp ⟨p, (tw z).mp q⟩
  · exact pp ⟨p, q⟩
/-- the steps that come to a side -/
def cd (w h : Int) (i : Nat) : Bool := decide ((1 + (i : Int)) % w = 0 ∨ (1 + (i : Int)) % h = 0)
def hl (w h : Int) (k : Nat) : List (Int × Int) := ((List.range k).filter (cd w h)).map (pt w h)
theorem pts_hl {w h : Int} (h1 : Ok w) (h2 : Ok h) : pts w h = hl w h (ls w h - 1).toNat := by
  unfold pts hl
  rw [List.filter_map]
  congr 1
  refine List.filter_congr fun i _ => ?_
  simp only [Function.comp, sd, pt, cd, fo_side h1.1, fo_side h2.1]
  rw [Bool.eq_iff_iff]
  simp
theorem hl_s {w h : Int} {k : Nat} : hl w h (k + 1) = hl w h k ++ if cd w h k = true then [pt w h k] else [] := by
  unfold hl
  rw [List.range_succ, List.filter_append, List.map_append]
  congr 1
  by_cases c : cd w h k = true
  · rw [if_pos c]
    exact congrArg (List.map (pt w h)) (List.filter_cons_of_pos (p := cd w h) (a := k) (l := []) c)
  · rw [if_neg c]
    exact congrArg (List.map (pt w h)) (List.filter_cons_of_neg (p := cd w h) (a := k) (l := []) c)
theorem hl_new {W H : Nat} (hW : 1 ≤ W) (hH : 1 ≤ H) {k : Nat} (hk : (k : Int) + 1 < ls W H) (c : cd W H k = true) : ¬ pt W H k ∈ hl W H k := by
  intro hm
  obtain ⟨j, hj, e⟩ := List.mem_map.mp hm
  have hj := List.mem_range.mp (List.mem_filter.mp hj).1
  unfold pt at e
  injection e with e1 e2
  exact apart hW hH (s := 1 + (j : Int)) (t := 1 + (k : Int)) (by omega) (by omega) (by omega) (of_decide_eq_true c) ⟨e1.symm, e2.symm⟩
theorem cd_dvd (W H : Nat) (k : Nat) : cd W H k = decide (W ∣ k + 1 ∨ H ∣ k + 1) := by
  unfold cd
  have e : (1 + (k : Int)) = ((k + 1 : Nat) : Int) := by omega
  rw [e, ← Int.natCast_emod, ← Int.natCast_emod, Bool.eq_iff_iff, decide_eq_true_eq, decide_eq_true_eq, Nat.dvd_iff_mod_eq_zero, Nat.dvd_iff_mod_eq_zero]
  omega
theorem cnt {W H : Nat} (hW : 1 ≤ W) (hH : 1 ≤ H) : ∀ k, k < Nat.lcm W H → (hl W H k).length = k / W + k / H
  | 0, _ => by simp [hl]
  | k + 1, hk => by
    rw [hl_s, List.length_append, cnt hW hH k (by omega), Nat.succ_div, Nat.succ_div, cd_dvd]
    by_cases a : W ∣ k + 1 <;> by_cases b : H ∣ k + 1
    · have := Nat.le_of_dvd (by omega) (Nat.lcm_dvd a b)
      omega
    · simp [a, b]; omega
    · simp [a, b]; omega
    · simp [a, b]
theorem pts_len {W H : Nat} (hW : 1 ≤ W ∧ W ≤ 60) (hH : 1 ≤ H ∧ H ≤ 60) : ((pts W H).length : Int) = ls W H / W + ls W H / H - 2 := by
  have lp : 0 < Nat.lcm W H := Nat.lcm_pos (by omega) (by omega)
  rw [pts_hl ⟨by omega, by omega⟩ ⟨by omega, by omega⟩, ls_lcm]
  have e : (((Nat.lcm W H : Nat) : Int) - 1).toNat = Nat.lcm W H - 1 := by omega
  rw [e, cnt hW.1 hH.1 _ (by omega), ← Int.natCast_ediv, ← Int.natCast_ediv]
  have a := Nat.succ_div (a := Nat.lcm W H - 1) (b := W)
  have b := Nat.succ_div (a := Nat.lcm W H - 1) (b := H)
  rw [show Nat.lcm W H - 1 + 1 = Nat.lcm W H by omega] at a b
  rw [if_pos (Nat.dvd_lcm_left ..)] at a
  rw [if_pos (Nat.dvd_lcm_right ..)] at b
  omega
end K95
namespace K95
open PySem PV L2
theorem ls_eq (w h : Int) : w * h / gd w h = ls w h := by unfold ls; rfl
theorem gd_dvd {w h : Int} : gd w h ∣ w ∧ gd w h ∣ h := by
  unfold gd
  exact ⟨Int.gcd_dvd_left .., Int.gcd_dvd_right ..⟩
def Post (ns : List Int) (Q : Fl → AS → Prop) : Prop := ∀ h x2 x3 x4 x5 x6 x7 x8 x9 x10 x11 x12 x13 x14 x15, HandOk h → Q .nx [some (.ro (ns.map D.int), 0), some (h, 1), x2, x3, x4, x5, x6, x7, x8, x9, x10, x11, x12, x13, x14, x15]
abbrev On (W : Nat) : Prop := 1 ≤ W ∧ W ≤ 60
theorem On.ok {W : Nat} (h : On W) : Ok (W : Int) := ⟨by omega, by omega⟩
theorem sq_eq {W H : Nat} : decide ((W : Int) * W = H * H) = decide ((W : Int) = H) := by
  rw [← Int.natCast_mul, ← Int.natCast_mul, Bool.eq_iff_iff, decide_eq_true_eq, decide_eq_true_eq, Int.ofNat_inj, Int.ofNat_inj, Nat.mul_self_inj]
theorem max2 (a b : Int) : ∃ m, gMaxB [.tup [.int a, .int b]] = some (.int m) ∧ a ≤ m ∧ b ≤ m := by
  obtain ⟨m, e⟩ := maxI_c (x := a) (xs := [b])
  have z := o_maxBt (xs := [a, b])
  rw [e] at z
  obtain ⟨_, h⟩ := maxI_spec e
  exact ⟨m, z, h a (by simp), h b (by simp)⟩
theorem like_eq {w h g k : Int} (a : g ∣ w) (b : g ∣ h) : w * (h / g * k) = h * (w / g * k) := by
  have e1 := Int.ediv_mul_cancel a
  have e2 := Int.ediv_mul_cancel b
  generalize w / g = x at *
  generalize h / g = y at *
  subst e1 e2
  ac_rfl
theorem tail4 {ns : List Int} {W H : Nat} {h : D} {x2 x8 x9 x10 x11 x12 x13 x14 x15 : Option (D × Nat)} {Q : Fl → AS → Prop} (hh : HandOk h) (oW : On W) (oH : On H) (q : Post ns Q) : wp (t_law_t4 [some (.ro (ns.map D.int), 0), some (h, 1), x2, some (.int W, 0), some (.int H, 0), some (.tup [.int W, .int H], 0), some (.int (gd W H), 0), some (.int (ls W H), 0), x8, x9, x10, x11, x12, x13, x14, x15]) Q := by
  have w1 := oW.ok
  have h1 := oH.ok
  have g := gd_bd w1 h1
  obtain ⟨d1, d2⟩ := gd_dvd (w := W) (h := H)
  have a1 : (W : Int) / gd W H ≤ W := Int.ediv_le_self _ (by omega)
  have a2 : (H : Int) / gd W H ≤ H := Int.ediv_le_self _ (by omega)
  have b1 : 1 ≤ (W : Int) / gd W H := by
    have := Int.ediv_mul_cancel d1
    rcases Int.lt_or_le 0 ((W : Int) / gd W H) with z | z
    · omega
    · have : (W : Int) / gd W H * gd W H ≤ 0 := Int.mul_nonpos_of_nonpos_of_nonneg z (by omega)
      omega
  have b2 : 1 ≤ (H : Int) / gd W H := by
    have := Int.ediv_mul_cancel d2
    rcases Int.lt_or_le 0 ((H : Int) / gd W H) with z | z
    · omega
    · have : (H : Int) / gd W H * gd W H ≤ 0 := Int.mul_nonpos_of_nonpos_of_nonneg z (by omega)
      omega
  have ql := q_like w1 h1 h1 w1
  rw [sq_eq] at ql
  have li : F__law_is 6 [(.bl (decide ((W : Int) = H)), 0), (.bl (decide ((W : Int) = H)), 0)] = .ok (.bl true) none := li_bl (n := 5)
  simp (disch := first | assumption | omega | (refine okR_int ?_ ?_ <;> omega) | exact OkE.str | (refine okE_of ?_ ?_ <;> (simp only [okE_tup, okE_lst, okEs_c, okEs_nil, okEs_ints, okE_int, okE_bl, okE_non, okE_str, okEs_app, Bool.and_self, Bool.and_true] <;> decide +kernel))) only [↓w_c, ↓w_var, ↓w_mv, ↓wa_nil, ↓wa_vw, ↓wa_ev, ↓wf_nil, ↓wf_l, ↓wf_r, ↓w_ap, ↓wi_nil, ↓wi_r, ↓w_apF, ↓wb_b, ↓w_tb, ↓w_tru, ↓tr1, ↓tr_bl, ↓tr_int, ↓tr_non, ↓tr_lst, ↓tr_tup, ↓w_not, ↓w_and, ↓w_or, ↓w_yes, ↓w_ife, ↓w_bl, ↓w_andV, ↓w_orV, ↓w_notV, ↓wn_i, ↓w_int, ↓w_chain, ↓hk_int, ↓hk_0, ↓hk_2, ↓hk_l, ↓hd_nil, ↓hd_l, ↓hd_r, ↓w_call, ↓w_callio, ↓is_l, ↓is_r, ↓is_s, ↓mk_nil, ↓mk_r, ↓mk_l, ↓ib_n, ↓ib_s, ↓ib_none, ↓wfl_n, ↓wfl_r, ↓w_run, ↓iv_n, ↓iv_z, ↓iv_s, ↓w_next, ↓w_break, ↓w_cont, ↓w_never, ↓wx_n, ↓wx_r, ↓wx_b, ↓wx_c, ↓w_seq, ↓w_set, ↓w_expr, ↓w_ret, ↓w_ifs, ↓wm_nil, ↓wm_c, ↓sm_nil, ↓sm_c, ↓w_par, ↓bt_n, ↓bt_t, ↓bt_l, ↓bts_n, ↓bts_c, ↓w_tgt, ↓w_it, ↓w_itV, ↓w_itF, ↓w_str, ↓w_itP, ↓w_for, ↓w_lc, ↓w_mut, ↓w_store, ↓st1, wp_ok, wp_no, wp_ex, br_t, br_f, br_not, gv_z, gv_s, sv_z, sv_s, nk_int, nk_bl, nk_str, nk_tup, nk_ro, nk_non, nk_lt, nk_lf, nk_f, kk_0, kk_1, wpo_some, wpo_none, wpo_map, wpo_bind, o_add, o_adds, o_addl, o_addt, o_sub, o_mul, o_mull, o_fd, o_md, o_pw, o_ng, o_lt, o_le, o_gt, o_ge, o_abs, o_int, o_intb, o_is_ti, o_is_tb, o_is_ts, o_is_tt, o_is_tl, o_tup, o_lst, o_lenl, o_lent, o_lenr, o_lens, o_ixl, o_ixt, o_ixr, ixL_o, ixL_m1, gRepr_ok, gEq_ok, gNe_ok, eqD_int, eqD_bl, eqD_non, eqD_tup, eqD_lst, eqD_str, eqDs_nil, eqDs_c, eqDs_cn, eqDs_nc, eqDs_ints, o_eqS, o_neS, o_eqI, o_neI, o_eqB, o_neB, o_allB, o_anyB, o_sumI, o_sumM, o_allM, o_anyM, o_max2, o_min2, o_maxI, o_minI, o_tuple, o_tuplet, o_list, o_listt, o_rng1, o_rng2, o_append, o_pop, o_set, wk_l, wk_t, wk_r, wk_s, mu_l, mu_d, d_mut_l, d_mut_i, d_mut_b, d_mut_s, d_mut_t, d_mut_n, ixN_o, List.set_cons_zero, List.set_cons_succ, List.getLast?_concat, o_sumAI, o_sumAM, o_sumAt, o_sumAt2, o_maxA2, o_minA2, o_maxAI, o_minAI, o_maxAt, o_minAt, o_inSS, o_ninSS, o_ixs, o_join, o_isb, o_isn, o_notb, o_notn, in_int, in_non, in_tup, in_lst, in_str, in_bl, o_inI, o_inIt, o_ninI, o_ninIt, o_inS, o_inSt, o_lrg1, o_lrg2, o_trg1, o_popAtI, o_sortI, o_sortIt, o_extend, o_revL, o_zipl, o_zipt, o_rev, o_enum, wfp_nil, wfp_r, wfp_l, fo_n, fo_c, fo_b, fo_r, un_nil, un_c, re_nil, re_c, ov_nil, ov_c, kOk_0, kOk_1, kOk_2, kOk_n, o_minB2, o_maxB2, o_minBI, o_maxBI, o_minBt, o_maxBt, o_sortBI, o_sortBIt, o_dict1i, o_dict1s, o_dicK, o_dicT, nk_dt, nk_df, d_mut_dic, o_is_td, in_dic, o_is_tn, o_enumAl, o_enumAt, o_mulT, o_dT0, o_putT, nk_dT, mut_dT, List.map_cons, List.map_nil, List.length_cons, List.length_nil, List.replicate_succ, List.replicate_zero, List.cons_append, List.nil_append, List.append_nil, List.length_map, List.length_range, List.drop_succ_cons, List.drop_zero, List.zip_cons_cons, List.zip_nil_right, List.zip_nil_left, List.getElem?_cons_zero, List.getElem?_cons_succ, Option.join_some, Option.join_none, Option.map_some, Option.map_none, decide_true, decide_false, decide_not, Bool.not_true, Bool.not_false, Bool.not_not, Bool.true_and, Bool.false_and, Bool.and_true, Bool.and_false, true_and, and_true, false_and, and_false, not_true_eq_false, not_false_eq_true, if_true, if_false, reduceCtorEq, Option.some.injEq, and_self, mb_l, mb_r, Nat.reduceAdd, Nat.reducePow, Nat.reduceSub, Nat.reduceMul, Nat.reduceLT, Nat.reduceGT, Nat.reduceLeDiff, Nat.reduceEqDiff, Nat.reduceBEq, Nat.reduceBNe, Int.reduceAdd, Int.reduceSub, Int.reduceMul, Int.reduceNeg, Int.reduceDiv, Int.reduceMod, Int.reduceLT, Int.reduceLE, Int.reduceGT, Int.reduceGE, Int.reduceEq, Int.reduceNe, Int.reduceToNat, Int.reducePow, Int.reduceAbs, Int.reduceBEq, Int.reduceBNe, reduceIte, Nat.zero_add, Nat.sub_zero, Nat.add_zero, Int.natCast_one, Int.cast_ofNat_Int, t_law_t4]
  refine q_draw.go hh (by omega) (by omega) fun r h2 hr hh2 => ?_
  have m1 : Mb ((W : Int) / gd W H) (1 + r) := by left; omega
  have m2 : Mb ((H : Int) / gd W H) (1 + r) := by left; omega
  obtain ⟨m, em, l1, l2⟩ := max2 ((W : Int) / gd W H * (1 + r)) ((H : Int) / gd W H * (1 + r))
  have c1 : 1 * 1 ≤ (W : Int) / gd W H * (1 + r) := Int.mul_le_mul b1 (by omega) (by omega) (by omega)
  have c2 : 1 * 1 ≤ (H : Int) / gd W H * (1 + r) := Int.mul_le_mul b2 (by omega) (by omega) (by omega)
  simp (disch := first | assumption | omega | (refine okR_int ?_ ?_ <;> omega) | exact OkE.str | (refine okE_of ?_ ?_ <;> (simp only [okE_tup, okE_lst, okEs_c, okEs_nil, okEs_ints, okE_int, okE_bl, okE_non, okE_str, okEs_app, Bool.and_self, Bool.and_true] <;> decide +kernel))) only [↓w_c, ↓w_var, ↓w_mv, ↓wa_nil, ↓wa_vw, ↓wa_ev, ↓wf_nil, ↓wf_l, ↓wf_r, ↓w_ap, ↓wi_nil, ↓wi_r, ↓w_apF, ↓wb_b, ↓w_tb, ↓w_tru, ↓tr1, ↓tr_bl, ↓tr_int, ↓tr_non, ↓tr_lst, ↓tr_tup, ↓w_not, ↓w_and, ↓w_or, ↓w_yes, ↓w_ife, ↓w_bl, ↓w_andV, ↓w_orV, ↓w_notV, ↓wn_i, ↓w_int, ↓w_chain, ↓hk_int, ↓hk_0, ↓hk_2, ↓hk_l, ↓hd_nil, ↓hd_l, ↓hd_r, ↓w_call, ↓w_callio, ↓is_l, ↓is_r, ↓is_s, ↓mk_nil, ↓mk_r, ↓mk_l, ↓ib_n, ↓ib_s, ↓ib_none, ↓wfl_n, ↓wfl_r, ↓w_run, ↓iv_n, ↓iv_z, ↓iv_s, ↓w_next, ↓w_break, ↓w_cont, ↓w_never, ↓wx_n, ↓wx_r, ↓wx_b, ↓wx_c, ↓w_seq, ↓w_set, ↓w_expr, ↓w_ret, ↓w_ifs, ↓wm_nil, ↓wm_c, ↓sm_nil, ↓sm_c, ↓w_par, ↓bt_n, ↓bt_t, ↓bt_l, ↓bts_n, ↓bts_c, ↓w_tgt, ↓w_it, ↓w_itV, ↓w_itF, ↓w_str, ↓w_itP, ↓w_for, ↓w_lc, ↓w_mut, ↓w_store, ↓st1, wp_ok, wp_no, wp_ex, br_t, br_f, br_not, gv_z, gv_s, sv_z, sv_s, nk_int, nk_bl, nk_str, nk_tup, nk_ro, nk_non, nk_lt, nk_lf, nk_f, kk_0, kk_1, wpo_some, wpo_none, wpo_map, wpo_bind, o_add, o_adds, o_addl, o_addt, o_sub, o_mul, o_mull, o_fd, o_md, o_pw, o_ng, o_lt, o_le, o_gt, o_ge, o_abs, o_int, o_intb, o_is_ti, o_is_tb, o_is_ts, o_is_tt, o_is_tl, o_tup, o_lst, o_lenl, o_lent, o_lenr, o_lens, o_ixl, o_ixt, o_ixr, ixL_o, ixL_m1, gRepr_ok, gEq_ok, gNe_ok, eqD_int, eqD_bl, eqD_non, eqD_tup, eqD_lst, eqD_str, eqDs_nil, eqDs_c, eqDs_cn, eqDs_nc, eqDs_ints, o_eqS, o_neS, o_eqI, o_neI, o_eqB, o_neB, o_allB, o_anyB, o_sumI, o_sumM, o_allM, o_anyM, o_max2, o_min2, o_maxI, o_minI, o_tuple, o_tuplet, o_list, o_listt, o_rng1, o_rng2, o_append, o_pop, o_set, wk_l, wk_t, wk_r, wk_s, mu_l, mu_d, d_mut_l, d_mut_i, d_mut_b, d_mut_s, d_mut_t, d_mut_n, ixN_o, List.set_cons_zero, List.set_cons_succ, List.getLast?_concat, o_sumAI, o_sumAM, o_sumAt, o_sumAt2, o_maxA2, o_minA2, o_maxAI, o_minAI, o_maxAt, o_minAt, o_inSS, o_ninSS, o_ixs, o_join, o_isb, o_isn, o_notb, o_notn, in_int, in_non, in_tup, in_lst, in_str, in_bl, o_inI, o_inIt, o_ninI, o_ninIt, o_inS, o_inSt, o_lrg1, o_lrg2, o_trg1, o_popAtI, o_sortI, o_sortIt, o_extend, o_revL, o_zipl, o_zipt, o_rev, o_enum, wfp_nil, wfp_r, wfp_l, fo_n, fo_c, fo_b, fo_r, un_nil, un_c, re_nil, re_c, ov_nil, ov_c, kOk_0, kOk_1, kOk_2, kOk_n, o_minB2, o_maxB2, o_minBI, o_maxBI, o_minBt, o_maxBt, o_sortBI, o_sortBIt, o_dict1i, o_dict1s, o_dicK, o_dicT, nk_dt, nk_df, d_mut_dic, o_is_td, in_dic, o_is_tn, o_enumAl, o_enumAt, o_mulT, o_dT0, o_putT, nk_dT, mut_dT, List.map_cons, List.map_nil, List.length_cons, List.length_nil, List.replicate_succ, List.replicate_zero, List.cons_append, List.nil_append, List.append_nil, List.length_map, List.length_range, List.drop_succ_cons, List.drop_zero, List.zip_cons_cons, List.zip_nil_right, List.zip_nil_left, List.getElem?_cons_zero, List.getElem?_cons_succ, Option.join_some, Option.join_none, Option.map_some, Option.map_none, decide_true, decide_false, decide_not, Bool.not_true, Bool.not_false, Bool.not_not, Bool.true_and, Bool.false_and, Bool.and_true, Bool.and_false, true_and, and_true, false_and, and_false, not_true_eq_false, not_false_eq_true, if_true, if_false, reduceCtorEq, Option.some.injEq, and_self, mb_l, mb_r, Nat.reduceAdd, Nat.reducePow, Nat.reduceSub, Nat.reduceMul, Nat.reduceLT, Nat.reduceGT, Nat.reduceLeDiff, Nat.reduceEqDiff, Nat.reduceBEq, Nat.reduceBNe, Int.reduceAdd, Int.reduceSub, Int.reduceMul, Int.reduceNeg, Int.reduceDiv, Int.reduceMod, Int.reduceLT, Int.reduceLE, Int.reduceGT, Int.reduceGE, Int.reduceEq, Int.reduceNe, Int.reduceToNat, Int.reducePow, Int.reduceAbs, Int.reduceBEq, Int.reduceBNe, reduceIte, Nat.zero_add, Nat.sub_zero, Nat.add_zero, Int.natCast_one, Int.cast_ofNat_Int, em]
  refine ⟨by omega, by omega, ?_⟩
  refine br_ci (fun e => ?_) (fun e => ?_)
  · have qk := q_like w1 h1 (a := (W : Int) / gd W H * (1 + r)) (b := (H : Int) / gd W H * (1 + r)) ⟨by omega, by omega⟩ ⟨by omega, by omega⟩
    rw [decide_eq_true (like_eq d1 d2)] at qk
    simp (disch := first | assumption | omega | (refine okR_int ?_ ?_ <;> omega) | exact OkE.str | (refine okE_of ?_ ?_ <;> (simp only [okE_tup, okE_lst, okEs_c, okEs_nil, okEs_ints, okE_int, okE_bl, okE_non, okE_str, okEs_app, Bool.and_self, Bool.and_true] <;> decide +kernel))) only [↓w_c, ↓w_var, ↓w_mv, ↓wa_nil, ↓wa_vw, ↓wa_ev, ↓wf_nil, ↓wf_l, ↓wf_r, ↓w_ap, ↓wi_nil, ↓wi_r, ↓w_apF, ↓wb_b, ↓w_tb, ↓w_tru, ↓tr1, ↓tr_bl, ↓tr_int, ↓tr_non, ↓tr_lst, ↓tr_tup, ↓w_not, ↓w_and, ↓w_or, ↓w_yes, ↓w_ife, ↓w_bl, ↓w_andV, ↓w_orV, ↓w_notV, ↓wn_i, ↓w_int, ↓w_chain, ↓hk_int, ↓hk_0, ↓hk_2, ↓hk_l, ↓hd_nil, ↓hd_l, ↓hd_r, ↓w_call, ↓w_callio, ↓is_l, ↓is_r, ↓is_s, ↓mk_nil, ↓mk_r, ↓mk_l, ↓ib_n, ↓ib_s, ↓ib_none, ↓wfl_n, ↓wfl_r, ↓w_run, ↓iv_n, ↓iv_z, ↓iv_s, ↓w_next, ↓w_break, ↓w_cont, ↓w_never, ↓wx_n, ↓wx_r, ↓wx_b, ↓wx_c, ↓w_seq, ↓w_set, ↓w_expr, ↓w_ret, ↓w_ifs, ↓wm_nil, ↓wm_c, ↓sm_nil, ↓sm_c, ↓w_par, ↓bt_n, ↓bt_t, ↓bt_l, ↓bts_n, ↓bts_c, ↓w_tgt, ↓w_it, ↓w_itV, ↓w_itF, ↓w_str, ↓w_itP, ↓w_for, ↓w_lc, ↓w_mut, ↓w_store, ↓st1, wp_ok, wp_no, wp_ex, br_t, br_f, br_not, gv_z, gv_s, sv_z, sv_s, nk_int, nk_bl, nk_str, nk_tup, nk_ro, nk_non, nk_lt, nk_lf, nk_f, kk_0, kk_1, wpo_some, wpo_none, wpo_map, wpo_bind, o_add, o_adds, o_addl, o_addt, o_sub, o_mul, o_mull, o_fd, o_md, o_pw, o_ng, o_lt, o_le, o_gt, o_ge, o_abs, o_int, o_intb, o_is_ti, o_is_tb, o_is_ts, o_is_tt, o_is_tl, o_tup, o_lst, o_lenl, o_lent, o_lenr, o_lens, o_ixl, o_ixt, o_ixr, ixL_o, ixL_m1, gRepr_ok, gEq_ok, gNe_ok, eqD_int, eqD_bl, eqD_non, eqD_tup, eqD_lst, eqD_str, eqDs_nil, eqDs_c, eqDs_cn, eqDs_nc, eqDs_ints, o_eqS, o_neS, o_eqI, o_neI, o_eqB, o_neB, o_allB, o_anyB, o_sumI, o_sumM, o_allM, o_anyM, o_max2, o_min2, o_maxI, o_minI, o_tuple, o_tuplet, o_list, o_listt, o_rng1, o_rng2, o_append, o_pop, o_set, wk_l, wk_t, wk_r, wk_s, mu_l, mu_d, d_mut_l, d_mut_i, d_mut_b, d_mut_s, d_mut_t, d_mut_n, ixN_o, List.set_cons_zero, List.set_cons_succ, List.getLast?_concat, o_sumAI, o_sumAM, o_sumAt, o_sumAt2, o_maxA2, o_minA2, o_maxAI, o_minAI, o_maxAt, o_minAt, o_inSS, o_ninSS, o_ixs, o_join, o_isb, o_isn, o_notb, o_notn, in_int, in_non, in_tup, in_lst, in_str, in_bl, o_inI, o_inIt, o_ninI, o_ninIt, o_inS, o_inSt, o_lrg1, o_lrg2, o_trg1, o_popAtI, o_sortI, o_sortIt, o_extend, o_revL, o_zipl, o_zipt, o_rev, o_enum, wfp_nil, wfp_r, wfp_l, fo_n, fo_c, fo_b, fo_r, un_nil, un_c, re_nil, re_c, ov_nil, ov_c, kOk_0, kOk_1, kOk_2, kOk_n, o_minB2, o_maxB2, o_minBI, o_maxBI, o_minBt, o_maxBt, o_sortBI, o_sortBIt, o_dict1i, o_dict1s, o_dicK, o_dicT, nk_dt, nk_df, d_mut_dic, o_is_td, in_dic, o_is_tn, o_enumAl, o_enumAt, o_mulT, o_dT0, o_putT, nk_dT, mut_dT, List.map_cons, List.map_nil, List.length_cons, List.length_nil, List.replicate_succ, List.replicate_zero, List.cons_append, List.nil_append, List.append_nil, List.length_map, List.length_range, List.drop_succ_cons, List.drop_zero, List.zip_cons_cons, List.zip_nil_right, List.zip_nil_left, List.getElem?_cons_zero, List.getElem?_cons_succ, Option.join_some, Option.join_none, Option.map_some, Option.map_none, decide_true, decide_false, decide_not, Bool.not_true, Bool.not_false, Bool.not_not, Bool.true_and, Bool.false_and, Bool.and_true, Bool.and_false, true_and, and_true, false_and, and_false, not_true_eq_false, not_false_eq_true, if_true, if_false, reduceCtorEq, Option.some.injEq, and_self, mb_l, mb_r, Nat.reduceAdd, Nat.reducePow, Nat.reduceSub, Nat.reduceMul, Nat.reduceLT, Nat.reduceGT, Nat.reduceLeDiff, Nat.reduceEqDiff, Nat.reduceBEq, Nat.reduceBNe, Int.reduceAdd, Int.reduceSub, Int.reduceMul, Int.reduceNeg, Int.reduceDiv, Int.reduceMod, Int.reduceLT, Int.reduceLE, Int.reduceGT, Int.reduceGE, Int.reduceEq, Int.reduceNe, Int.reduceToNat, Int.reducePow, Int.reduceAbs, Int.reduceBEq, Int.reduceBNe, reduceIte, Nat.zero_add, Nat.sub_zero, Nat.add_zero, Int.natCast_one, Int.cast_ofNat_Int, qk, ql, li]
    exact q _ _ _ _ _ _ _ _ _ _ _ _ _ _ _ hh2
  · simp (disch := first | assumption | omega | (refine okR_int ?_ ?_ <;> omega) | exact OkE.str | (refine okE_of ?_ ?_ <;> (simp only [okE_tup, okE_lst, okEs_c, okEs_nil, okEs_ints, okE_int, okE_bl, okE_non, okE_str, okEs_app, Bool.and_self, Bool.and_true] <;> decide +kernel))) only [↓w_c, ↓w_var, ↓w_mv, ↓wa_nil, ↓wa_vw, ↓wa_ev, ↓wf_nil, ↓wf_l, ↓wf_r, ↓w_ap, ↓wi_nil, ↓wi_r, ↓w_apF, ↓wb_b, ↓w_tb, ↓w_tru, ↓tr1, ↓tr_bl, ↓tr_int, ↓tr_non, ↓tr_lst, ↓tr_tup, ↓w_not, ↓w_and, ↓w_or, ↓w_yes, ↓w_ife, ↓w_bl, ↓w_andV, ↓w_orV, ↓w_notV, ↓wn_i, ↓w_int, ↓w_chain, ↓hk_int, ↓hk_0, ↓hk_2, ↓hk_l, ↓hd_nil, ↓hd_l, ↓hd_r, ↓w_call, ↓w_callio, ↓is_l, ↓is_r, ↓is_s, ↓mk_nil, ↓mk_r, ↓mk_l, ↓ib_n, ↓ib_s, ↓ib_none, ↓wfl_n, ↓wfl_r, ↓w_run, ↓iv_n, ↓iv_z, ↓iv_s, ↓w_next, ↓w_break, ↓w_cont, ↓w_never, ↓wx_n, ↓wx_r, ↓wx_b, ↓wx_c, ↓w_seq, ↓w_set, ↓w_expr, ↓w_ret, ↓w_ifs, ↓wm_nil, ↓wm_c, ↓sm_nil, ↓sm_c, ↓w_par, ↓bt_n, ↓bt_t, ↓bt_l, ↓bts_n, ↓bts_c, ↓w_tgt, ↓w_it, ↓w_itV, ↓w_itF, ↓w_str, ↓w_itP, ↓w_for, ↓w_lc, ↓w_mut, ↓w_store, ↓st1, wp_ok, wp_no, wp_ex, br_t, br_f, br_not, gv_z, gv_s, sv_z, sv_s, nk_int, nk_bl, nk_str, nk_tup, nk_ro, nk_non, nk_lt, nk_lf, nk_f, kk_0, kk_1, wpo_some, wpo_none, wpo_map, wpo_bind, o_add, o_adds, o_addl, o_addt, o_sub, o_mul, o_mull, o_fd, o_md, o_pw, o_ng, o_lt, o_le, o_gt, o_ge, o_abs, o_int, o_intb, o_is_ti, o_is_tb, o_is_ts, o_is_tt, o_is_tl, o_tup, o_lst, o_lenl, o_lent, o_lenr, o_lens, o_ixl, o_ixt, o_ixr, ixL_o, ixL_m1, gRepr_ok, gEq_ok, gNe_ok, eqD_int, eqD_bl, eqD_non, eqD_tup, eqD_lst, eqD_str, eqDs_nil, eqDs_c, eqDs_cn, eqDs_nc, eqDs_ints, o_eqS, o_neS, o_eqI, o_neI, o_eqB, o_neB, o_allB, o_anyB, o_sumI, o_sumM, o_allM, o_anyM, o_max2, o_min2, o_maxI, o_minI, o_tuple, o_tuplet, o_list, o_listt, o_rng1, o_rng2, o_append, o_pop, o_set, wk_l, wk_t, wk_r, wk_s, mu_l, mu_d, d_mut_l, d_mut_i, d_mut_b, d_mut_s, d_mut_t, d_mut_n, ixN_o, List.set_cons_zero, List.set_cons_succ, List.getLast?_concat, o_sumAI, o_sumAM, o_sumAt, o_sumAt2, o_maxA2, o_minA2, o_maxAI, o_minAI, o_maxAt, o_minAt, o_inSS, o_ninSS, o_ixs, o_join, o_isb, o_isn, o_notb, o_notn, in_int, in_non, in_tup, in_lst, in_str, in_bl, o_inI, o_inIt, o_ninI, o_ninIt, o_inS, o_inSt, o_lrg1, o_lrg2, o_trg1, o_popAtI, o_sortI, o_sortIt, o_extend, o_revL, o_zipl, o_zipt, o_rev, o_enum, wfp_nil, wfp_r, wfp_l, fo_n, fo_c, fo_b, fo_r, un_nil, un_c, re_nil, re_c, ov_nil, ov_c, kOk_0, kOk_1, kOk_2, kOk_n, o_minB2, o_maxB2, o_minBI, o_maxBI, o_minBt, o_maxBt, o_sortBI, o_sortBIt, o_dict1i, o_dict1s, o_dicK, o_dicT, nk_dt, nk_df, d_mut_dic, o_is_td, in_dic, o_is_tn, o_enumAl, o_enumAt, o_mulT, o_dT0, o_putT, nk_dT, mut_dT, List.map_cons, List.map_nil, List.length_cons, List.length_nil, List.replicate_succ, List.replicate_zero, List.cons_append, List.nil_append, List.append_nil, List.length_map, List.length_range, List.drop_succ_cons, List.drop_zero, List.zip_cons_cons, List.zip_nil_right, List.zip_nil_left, List.getElem?_cons_zero, List.getElem?_cons_succ, Option.join_some, Option.join_none, Option.map_some, Option.map_none, decide_true, decide_false, decide_not, Bool.not_true, Bool.not_false, Bool.not_not, Bool.true_and, Bool.false_and, Bool.and_true, Bool.and_false, true_and, and_true, false_and, and_false, not_true_eq_false, not_false_eq_true, if_true, if_false, reduceCtorEq, Option.some.injEq, and_self, mb_l, mb_r, Nat.reduceAdd, Nat.reducePow, Nat.reduceSub, Nat.reduceMul, Nat.reduceLT, Nat.reduceGT, Nat.reduceLeDiff, Nat.reduceEqDiff, Nat.reduceBEq, Nat.reduceBNe, Int.reduceAdd, Int.reduceSub, Int.reduceMul, Int.reduceNeg, Int.reduceDiv, Int.reduceMod, Int.reduceLT, Int.reduceLE, Int.reduceGT, Int.reduceGE, Int.reduceEq, Int.reduceNe, Int.reduceToNat, Int.reducePow, Int.reduceAbs, Int.reduceBEq, Int.reduceBNe, reduceIte, Nat.zero_add, Nat.sub_zero, Nat.add_zero, Int.natCast_one, Int.cast_ofNat_Int, ql, li]
    exact q _ _ _ _ _ _ _ _ _ _ _ _ _ _ _ hh2
theorem tail3 {ns : List Int} {W H : Nat} {h : D} {x2 x8 x9 x10 x11 x12 x13 x14 x15 : Option (D × Nat)} {Q : Fl → AS → Prop} (hh : HandOk h) (oW : On W) (oH : On H) (q : Post ns Q) : wp (t_law_t3 [some (.ro (ns.map D.int), 0), some (h, 1), x2, some (.int W, 0), some (.int H, 0), some (.tup [.int W, .int H], 0), some (.int (gd W H), 0), some (.int (ls W H), 0), x8, x9, x10, x11, x12, x13, x14, x15]) Q := by
  have w1 := oW.ok
  have h1 := oH.ok
  have g := gd_bd w1 h1
  have a1 : (W : Int) / gd W H ≤ W := Int.ediv_le_self _ (by omega)
  have a2 : 0 ≤ (W : Int) / gd W H := Int.ediv_nonneg (by omega) (by omega)
  have mb : Mb ((W : Int) / gd W H - 1) ((H : Int) / gd W H - 1) := by left; omega
  have li : F__law_is 6 [(.int (((W : Int) / gd W H - 1) * ((H : Int) / gd W H - 1) / 2), 0), (.int (((W : Int) / gd W H - 1) * ((H : Int) / gd W H - 1) / 2), 0)] = .ok (.bl true) none := li_int (n := 5)
  simp (disch := first | assumption | omega | (refine okR_int ?_ ?_ <;> omega) | exact OkE.str | (refine okE_of ?_ ?_ <;> (simp only [okE_tup, okE_lst, okEs_c, okEs_nil, okEs_ints, okE_int, okE_bl, okE_non, okE_str, okEs_app, Bool.and_self, Bool.and_true] <;> decide +kernel))) only [↓w_c, ↓w_var, ↓w_mv, ↓wa_nil, ↓wa_vw, ↓wa_ev, ↓wf_nil, ↓wf_l, ↓wf_r, ↓w_ap, ↓wi_nil, ↓wi_r, ↓w_apF, ↓wb_b, ↓w_tb, ↓w_tru, ↓tr1, ↓tr_bl, ↓tr_int, ↓tr_non, ↓tr_lst, ↓tr_tup, ↓w_not, ↓w_and, ↓w_or, ↓w_yes, ↓w_ife, ↓w_bl, ↓w_andV, ↓w_orV, ↓w_notV, ↓wn_i, ↓w_int, ↓w_chain, ↓hk_int, ↓hk_0, ↓hk_2, ↓hk_l, ↓hd_nil, ↓hd_l, ↓hd_r, ↓w_call, ↓w_callio, ↓is_l, ↓is_r, ↓is_s, ↓mk_nil, ↓mk_r, ↓mk_l, ↓ib_n, ↓ib_s, ↓ib_none, ↓wfl_n, ↓wfl_r, ↓w_run, ↓iv_n, ↓iv_z, ↓iv_s, ↓w_next, ↓w_break, ↓w_cont, ↓w_never, ↓wx_n, ↓wx_r, ↓wx_b, ↓wx_c, ↓w_seq, ↓w_set, ↓w_expr, ↓w_ret, ↓w_ifs, ↓wm_nil, ↓wm_c, ↓sm_nil, ↓sm_c, ↓w_par, ↓bt_n, ↓bt_t, ↓bt_l, ↓bts_n, ↓bts_c, ↓w_tgt, ↓w_it, ↓w_itV, ↓w_itF, ↓w_str, ↓w_itP, ↓w_for, ↓w_lc, ↓w_mut, ↓w_store, ↓st1, wp_ok, wp_no, wp_ex, br_t, br_f, br_not, gv_z, gv_s, sv_z, sv_s, nk_int, nk_bl, nk_str, nk_tup, nk_ro, nk_non, nk_lt, nk_lf, nk_f, kk_0, kk_1, wpo_some, wpo_none, wpo_map, wpo_bind, o_add, o_adds, o_addl, o_addt, o_sub, o_mul, o_mull, o_fd, o_md, o_pw, o_ng, o_lt, o_le, o_gt, o_ge, o_abs, o_int, o_intb, o_is_ti, o_is_tb, o_is_ts, o_is_tt, o_is_tl, o_tup, o_lst, o_lenl, o_lent, o_lenr, o_lens, o_ixl, o_ixt, o_ixr, ixL_o, ixL_m1, gRepr_ok, gEq_ok, gNe_ok, eqD_int, eqD_bl, eqD_non, eqD_tup, eqD_lst, eqD_str, eqDs_nil, eqDs_c, eqDs_cn, eqDs_nc, eqDs_ints, o_eqS, o_neS, o_eqI, o_neI, o_eqB, o_neB, o_allB, o_anyB, o_sumI, o_sumM, o_allM, o_anyM, o_max2, o_min2, o_maxI, o_minI, o_tuple, o_tuplet, o_list, o_listt, o_rng1, o_rng2, o_append, o_pop, o_set, wk_l, wk_t, wk_r, wk_s, mu_l, mu_d, d_mut_l, d_mut_i, d_mut_b, d_mut_s, d_mut_t, d_mut_n, ixN_o, List.set_cons_zero, List.set_cons_succ, List.getLast?_concat, o_sumAI, o_sumAM, o_sumAt, o_sumAt2, o_maxA2, o_minA2, o_maxAI, o_minAI, o_maxAt, o_minAt, o_inSS, o_ninSS, o_ixs, o_join, o_isb, o_isn, o_notb, o_notn, in_int, in_non, in_tup, in_lst, in_str, in_bl, o_inI, o_inIt, o_ninI, o_ninIt, o_inS, o_inSt, o_lrg1, o_lrg2, o_trg1, o_popAtI, o_sortI, o_sortIt, o_extend, o_revL, o_zipl, o_zipt, o_rev, o_enum, wfp_nil, wfp_r, wfp_l, fo_n, fo_c, fo_b, fo_r, un_nil, un_c, re_nil, re_c, ov_nil, ov_c, kOk_0, kOk_1, kOk_2, kOk_n, o_minB2, o_maxB2, o_minBI, o_maxBI, o_minBt, o_maxBt, o_sortBI, o_sortBIt, o_dict1i, o_dict1s, o_dicK, o_dicT, nk_dt, nk_df, d_mut_dic, o_is_td, in_dic, o_is_tn, o_enumAl, o_enumAt, o_mulT, o_dT0, o_putT, nk_dT, mut_dT, List.map_cons, List.map_nil, List.length_cons, List.length_nil, List.replicate_succ, List.replicate_zero, List.cons_append, List.nil_append, List.append_nil, List.length_map, List.length_range, List.drop_succ_cons, List.drop_zero, List.zip_cons_cons, List.zip_nil_right, List.zip_nil_left, List.getElem?_cons_zero, List.getElem?_cons_succ, Option.join_some, Option.join_none, Option.map_some, Option.map_none, decide_true, decide_false, decide_not, Bool.not_true, Bool.not_false, Bool.not_not, Bool.true_and, Bool.false_and, Bool.and_true, Bool.and_false, true_and, and_true, false_and, and_false, not_true_eq_false, not_false_eq_true, if_true, if_false, reduceCtorEq, Option.some.injEq, and_self, mb_l, mb_r, Nat.reduceAdd, Nat.reducePow, Nat.reduceSub, Nat.reduceMul, Nat.reduceLT, Nat.reduceGT, Nat.reduceLeDiff, Nat.reduceEqDiff, Nat.reduceBEq, Nat.reduceBNe, Int.reduceAdd, Int.reduceSub, Int.reduceMul, Int.reduceNeg, Int.reduceDiv, Int.reduceMod, Int.reduceLT, Int.reduceLE, Int.reduceGT, Int.reduceGE, Int.reduceEq, Int.reduceNe, Int.reduceToNat, Int.reducePow, Int.reduceAbs, Int.reduceBEq, Int.reduceBNe, reduceIte, Nat.zero_add, Nat.sub_zero, Nat.add_zero, Int.natCast_one, Int.cast_ofNat_Int, t_law_t3, q_meets w1 h1, li]
  exact ⟨by omega, by omega, tail4 hh oW oH q⟩
theorem tail2 {ns : List Int} {W H : Nat} {h : D} {x2 x8 x9 x10 x12 x13 x14 x15 : Option (D × Nat)} {Q : Fl → AS → Prop} (hh : HandOk h) (oW : On W) (oH : On H) (q : Post ns Q) : wp (t_law_t2 [some (.ro (ns.map D.int), 0), some (h, 1), x2, some (.int W, 0), some (.int H, 0), some (.tup [.int W, .int H], 0), some (.int (gd W H), 0), some (.int (ls W H), 0), x8, x9, x10, some (dT (pts W H), 1), x12, x13, x14, x15]) Q := by
  have w1 := oW.ok
  have h1 := oH.ok
  have lb := ls_bd w1 h1
  have pl := pts_len oW oH
  have fl : (pts W H).length ≤ 3600 := by
    unfold pts
    refine Nat.le_trans (List.length_filter_le ..) ?_
    rw [List.length_map, List.length_range]
    omega
  have es := o_sortT (l := pts W H) (by omega)
  have li : F__law_is 6 [(.tup (((pts W H).map e2).mergeSort leD), 0), (.tup (((pts W H).map e2).mergeSort leD), 0)] = .ok (.bl true) none := li_tup (n := 5) (by rw [List.length_mergeSort, List.length_map]; omega) fun x hx => by
    obtain ⟨p, _, rfl⟩ := List.mem_map.mp ((List.mergeSort_perm _ _).mem_iff.mp hx)
    exact li_e2 (n := 3) p
  have ne : (((pts W H).map e2).mergeSort leD).length = (pts W H).length := by rw [List.length_mergeSort, List.length_map]
  simp (disch := first | assumption | omega | (refine okR_int ?_ ?_ <;> omega) | exact OkE.str | (refine okE_of ?_ ?_ <;> (simp only [okE_tup, okE_lst, okEs_c, okEs_nil, okEs_ints, okE_int, okE_bl, okE_non, okE_str, okEs_app, Bool.and_self, Bool.and_true] <;> decide +kernel))) only [↓w_c, ↓w_var, ↓w_mv, ↓wa_nil, ↓wa_vw, ↓wa_ev, ↓wf_nil, ↓wf_l, ↓wf_r, ↓w_ap, ↓wi_nil, ↓wi_r, ↓w_apF, ↓wb_b, ↓w_tb, ↓w_tru, ↓tr1, ↓tr_bl, ↓tr_int, ↓tr_non, ↓tr_lst, ↓tr_tup, ↓w_not, ↓w_and, ↓w_or, ↓w_yes, ↓w_ife, ↓w_bl, ↓w_andV, ↓w_orV, ↓w_notV, ↓wn_i, ↓w_int, ↓w_chain, ↓hk_int, ↓hk_0, ↓hk_2, ↓hk_l, ↓hd_nil, ↓hd_l, ↓hd_r, ↓w_call, ↓w_callio, ↓is_l, ↓is_r, ↓is_s, ↓mk_nil, ↓mk_r, ↓mk_l, ↓ib_n, ↓ib_s, ↓ib_none, ↓wfl_n, ↓wfl_r, ↓w_run, ↓iv_n, ↓iv_z, ↓iv_s, ↓w_next, ↓w_break, ↓w_cont, ↓w_never, ↓wx_n, ↓wx_r, ↓wx_b, ↓wx_c, ↓w_seq, ↓w_set, ↓w_expr, ↓w_ret, ↓w_ifs, ↓wm_nil, ↓wm_c, ↓sm_nil, ↓sm_c, ↓w_par, ↓bt_n, ↓bt_t, ↓bt_l, ↓bts_n, ↓bts_c, ↓w_tgt, ↓w_it, ↓w_itV, ↓w_itF, ↓w_str, ↓w_itP, ↓w_for, ↓w_lc, ↓w_mut, ↓w_store, ↓st1, wp_ok, wp_no, wp_ex, br_t, br_f, br_not, gv_z, gv_s, sv_z, sv_s, nk_int, nk_bl, nk_str, nk_tup, nk_ro, nk_non, nk_lt, nk_lf, nk_f, kk_0, kk_1, wpo_some, wpo_none, wpo_map, wpo_bind, o_add, o_adds, o_addl, o_addt, o_sub, o_mul, o_mull, o_fd, o_md, o_pw, o_ng, o_lt, o_le, o_gt, o_ge, o_abs, o_int, o_intb, o_is_ti, o_is_tb, o_is_ts, o_is_tt, o_is_tl, o_tup, o_lst, o_lenl, o_lent, o_lenr, o_lens, o_ixl, o_ixt, o_ixr, ixL_o, ixL_m1, gRepr_ok, gEq_ok, gNe_ok, eqD_int, eqD_bl, eqD_non, eqD_tup, eqD_lst, eqD_str, eqDs_nil, eqDs_c, eqDs_cn, eqDs_nc, eqDs_ints, o_eqS, o_neS, o_eqI, o_neI, o_eqB, o_neB, o_allB, o_anyB, o_sumI, o_sumM, o_allM, o_anyM, o_max2, o_min2, o_maxI, o_minI, o_tuple, o_tuplet, o_list, o_listt, o_rng1, o_rng2, o_append, o_pop, o_set, wk_l, wk_t, wk_r, wk_s, mu_l, mu_d, d_mut_l, d_mut_i, d_mut_b, d_mut_s, d_mut_t, d_mut_n, ixN_o, List.set_cons_zero, List.set_cons_succ, List.getLast?_concat, o_sumAI, o_sumAM, o_sumAt, o_sumAt2, o_maxA2, o_minA2, o_maxAI, o_minAI, o_maxAt, o_minAt, o_inSS, o_ninSS, o_ixs, o_join, o_isb, o_isn, o_notb, o_notn, in_int, in_non, in_tup, in_lst, in_str, in_bl, o_inI, o_inIt, o_ninI, o_ninIt, o_inS, o_inSt, o_lrg1, o_lrg2, o_trg1, o_popAtI, o_sortI, o_sortIt, o_extend, o_revL, o_zipl, o_zipt, o_rev, o_enum, wfp_nil, wfp_r, wfp_l, fo_n, fo_c, fo_b, fo_r, un_nil, un_c, re_nil, re_c, ov_nil, ov_c, kOk_0, kOk_1, kOk_2, kOk_n, o_minB2, o_maxB2, o_minBI, o_maxBI, o_minBt, o_maxBt, o_sortBI, o_sortBIt, o_dict1i, o_dict1s, o_dicK, o_dicT, nk_dt, nk_df, d_mut_dic, o_is_td, in_dic, o_is_tn, o_enumAl, o_enumAt, o_mulT, o_dT0, o_putT, nk_dT, mut_dT, List.map_cons, List.map_nil, List.length_cons, List.length_nil, List.replicate_succ, List.replicate_zero, List.cons_append, List.nil_append, List.append_nil, List.length_map, List.length_range, List.drop_succ_cons, List.drop_zero, List.zip_cons_cons, List.zip_nil_right, List.zip_nil_left, List.getElem?_cons_zero, List.getElem?_cons_succ, Option.join_some, Option.join_none, Option.map_some, Option.map_none, decide_true, decide_false, decide_not, Bool.not_true, Bool.not_false, Bool.not_not, Bool.true_and, Bool.false_and, Bool.and_true, Bool.and_false, true_and, and_true, false_and, and_false, not_true_eq_false, not_false_eq_true, if_true, if_false, reduceCtorEq, Option.some.injEq, and_self, mb_l, mb_r, Nat.reduceAdd, Nat.reducePow, Nat.reduceSub, Nat.reduceMul, Nat.reduceLT, Nat.reduceGT, Nat.reduceLeDiff, Nat.reduceEqDiff, Nat.reduceBEq, Nat.reduceBNe, Int.reduceAdd, Int.reduceSub, Int.reduceMul, Int.reduceNeg, Int.reduceDiv, Int.reduceMod, Int.reduceLT, Int.reduceLE, Int.reduceGT, Int.reduceGE, Int.reduceEq, Int.reduceNe, Int.reduceToNat, Int.reducePow, Int.reduceAbs, Int.reduceBEq, Int.reduceBNe, reduceIte, Nat.zero_add, Nat.sub_zero, Nat.add_zero, Int.natCast_one, Int.cast_ofNat_Int, t_law_t2, q_touched w1 h1, es, li, ne, pl]
  exact ⟨by omega, by omega, tail3 hh oW oH q⟩
theorem tail1 {ns : List Int} {W H : Nat} {h : D} {x2 x8 x9 x10 x11 x12 x13 x14 x15 : Option (D × Nat)} {Q : Fl → AS → Prop} (hh : HandOk h) (oW : On W) (oH : On H) (q : Post ns Q) : wp (t_law_t1 [some (.ro (ns.map D.int), 0), some (h, 1), x2, some (.int W, 0), some (.int H, 0), some (.tup [.int W, .int H], 0), some (.int (gd W H), 0), some (.int (ls W H), 0), x8, x9, x10, x11, x12, x13, x14, x15]) Q := by
  have w1 := oW.ok
  have h1 := oH.ok
  have lb := ls_bd w1 h1
  simp (disch := first | assumption | omega | (refine okR_int ?_ ?_ <;> omega) | exact OkE.str | (refine okE_of ?_ ?_ <;> (simp only [okE_tup, okE_lst, okEs_c, okEs_nil, okEs_ints, okE_int, okE_bl, okE_non, okE_str, okEs_app, Bool.and_self, Bool.and_true] <;> decide +kernel))) only [↓w_c, ↓w_var, ↓w_mv, ↓wa_nil, ↓wa_vw, ↓wa_ev, ↓wf_nil, ↓wf_l, ↓wf_r, ↓w_ap, ↓wi_nil, ↓wi_r, ↓w_apF, ↓wb_b, ↓w_tb, ↓w_tru, ↓tr1, ↓tr_bl, ↓tr_int, ↓tr_non, ↓tr_lst, ↓tr_tup, ↓w_not, ↓w_and, ↓w_or, ↓w_yes, ↓w_ife, ↓w_bl, ↓w_andV, ↓w_orV, ↓w_notV, ↓wn_i, ↓w_int, ↓w_chain, ↓hk_int, ↓hk_0, ↓hk_2, ↓hk_l, ↓hd_nil, ↓hd_l, ↓hd_r, ↓w_call, ↓w_callio, ↓is_l, ↓is_r, ↓is_s, ↓mk_nil, ↓mk_r, ↓mk_l, ↓ib_n, ↓ib_s, ↓ib_none, ↓wfl_n, ↓wfl_r, ↓w_run, ↓iv_n, ↓iv_z, ↓iv_s, ↓w_next, ↓w_break, ↓w_cont, ↓w_never, ↓wx_n, ↓wx_r, ↓wx_b, ↓wx_c, ↓w_seq, ↓w_set, ↓w_expr, ↓w_ret, ↓w_ifs, ↓wm_nil, ↓wm_c, ↓sm_nil, ↓sm_c, ↓w_par, ↓bt_n, ↓bt_t, ↓bt_l, ↓bts_n, ↓bts_c, ↓w_tgt, ↓w_it, ↓w_itV, ↓w_itF, ↓w_str, ↓w_itP, ↓w_for, ↓w_lc, ↓w_mut, ↓w_store, ↓st1, wp_ok, wp_no, wp_ex, br_t, br_f, br_not, gv_z, gv_s, sv_z, sv_s, nk_int, nk_bl, nk_str, nk_tup, nk_ro, nk_non, nk_lt, nk_lf, nk_f, kk_0, kk_1, wpo_some, wpo_none, wpo_map, wpo_bind, o_add, o_adds, o_addl, o_addt, o_sub, o_mul, o_mull, o_fd, o_md, o_pw, o_ng, o_lt, o_le, o_gt, o_ge, o_abs, o_int, o_intb, o_is_ti, o_is_tb, o_is_ts, o_is_tt, o_is_tl, o_tup, o_lst, o_lenl, o_lent, o_lenr, o_lens, o_ixl, o_ixt, o_ixr, ixL_o, ixL_m1, gRepr_ok, gEq_ok, gNe_ok, eqD_int, eqD_bl, eqD_non, eqD_tup, eqD_lst, eqD_str, eqDs_nil, eqDs_c, eqDs_cn, eqDs_nc, eqDs_ints, o_eqS, o_neS, o_eqI, o_neI, o_eqB, o_neB, o_allB, o_anyB, o_sumI, o_sumM, o_allM, o_anyM, o_max2, o_min2, o_maxI, o_minI, o_tuple, o_tuplet, o_list, o_listt, o_rng1, o_rng2, o_append, o_pop, o_set, wk_l, wk_t, wk_r, wk_s, mu_l, mu_d, d_mut_l, d_mut_i, d_mut_b, d_mut_s, d_mut_t, d_mut_n, ixN_o, List.set_cons_zero, List.set_cons_succ, List.getLast?_concat, o_sumAI, o_sumAM, o_sumAt, o_sumAt2, o_maxA2, o_minA2, o_maxAI, o_minAI, o_maxAt, o_minAt, o_inSS, o_ninSS, o_ixs, o_join, o_isb, o_isn, o_notb, o_notn, in_int, in_non, in_tup, in_lst, in_str, in_bl, o_inI, o_inIt, o_ninI, o_ninIt, o_inS, o_inSt, o_lrg1, o_lrg2, o_trg1, o_popAtI, o_sortI, o_sortIt, o_extend, o_revL, o_zipl, o_zipt, o_rev, o_enum, wfp_nil, wfp_r, wfp_l, fo_n, fo_c, fo_b, fo_r, un_nil, un_c, re_nil, re_c, ov_nil, ov_c, kOk_0, kOk_1, kOk_2, kOk_n, o_minB2, o_maxB2, o_minBI, o_maxBI, o_minBt, o_maxBt, o_sortBI, o_sortBIt, o_dict1i, o_dict1s, o_dicK, o_dicT, nk_dt, nk_df, d_mut_dic, o_is_td, in_dic, o_is_tn, o_enumAl, o_enumAt, o_mulT, o_dT0, o_putT, nk_dT, mut_dT, List.map_cons, List.map_nil, List.length_cons, List.length_nil, List.replicate_succ, List.replicate_zero, List.cons_append, List.nil_append, List.append_nil, List.length_map, List.length_range, List.drop_succ_cons, List.drop_zero, List.zip_cons_cons, List.zip_nil_right, List.zip_nil_left, List.getElem?_cons_zero, List.getElem?_cons_succ, Option.join_some, Option.join_none, Option.map_some, Option.map_none, decide_true, decide_false, decide_not, Bool.not_true, Bool.not_false, Bool.not_not, Bool.true_and, Bool.false_and, Bool.and_true, Bool.and_false, true_and, and_true, false_and, and_false, not_true_eq_false, not_false_eq_true, if_true, if_false, reduceCtorEq, Option.some.injEq, and_self, mb_l, mb_r, Nat.reduceAdd, Nat.reducePow, Nat.reduceSub, Nat.reduceMul, Nat.reduceLT, Nat.reduceGT, Nat.reduceLeDiff, Nat.reduceEqDiff, Nat.reduceBEq, Nat.reduceBNe, Int.reduceAdd, Int.reduceSub, Int.reduceMul, Int.reduceNeg, Int.reduceDiv, Int.reduceMod, Int.reduceLT, Int.reduceLE, Int.reduceGT, Int.reduceGE, Int.reduceEq, Int.reduceNe, Int.reduceToNat, Int.reducePow, Int.reduceAbs, Int.reduceBEq, Int.reduceBNe, reduceIte, Nat.zero_add, Nat.sub_zero, Nat.add_zero, Int.natCast_one, Int.cast_ofNat_Int, t_law_t1]
  refine ⟨by omega, ?_⟩
  refine wp_forR (fun i st => ∃ x12, st = [some (.ro (ns.map D.int), 0), some (h, 1), x2, some (.int W, 0), some (.int H, 0), some (.tup [.int W, .int H], 0), some (.int (gd W H), 0), some (.int (ls W H), 0), x8, x9, x10, some (dT (hl W H i), 1), x12, x13, x14, x15]) ⟨_, rfl⟩ ?_ ?_
  · rintro i st hi ⟨x12, rfl⟩
    have hn := hl_new (W := W) (H := H) oW.1 oH.1 (k := i) (by omega)
    have hlen : (hl W H i).length ≤ i := by
      unfold hl
      rw [List.length_map]
      refine Nat.le_trans (List.length_filter_le ..) ?_
      rw [List.length_range]
      exact Nat.le_refl _
    simp (disch := first | assumption | omega | (refine okR_int ?_ ?_ <;> omega) | exact OkE.str | (refine okE_of ?_ ?_ <;> (simp only [okE_tup, okE_lst, okEs_c, okEs_nil, okEs_ints, okE_int, okE_bl, okE_non, okE_str, okEs_app, Bool.and_self, Bool.and_true] <;> decide +kernel))) only [↓w_c, ↓w_var, ↓w_mv, ↓wa_nil, ↓wa_vw, ↓wa_ev, ↓wf_nil, ↓wf_l, ↓wf_r, ↓w_ap, ↓wi_nil, ↓wi_r, ↓w_apF, ↓wb_b, ↓w_tb, ↓w_tru, ↓tr1, ↓tr_bl, ↓tr_int, ↓tr_non, ↓tr_lst, ↓tr_tup, ↓w_not, ↓w_and, ↓w_or, ↓w_yes, ↓w_ife, ↓w_bl, ↓w_andV, ↓w_orV, ↓w_notV, ↓wn_i, ↓w_int, ↓w_chain, ↓hk_int, ↓hk_0, ↓hk_2, ↓hk_l, ↓hd_nil, ↓hd_l, ↓hd_r, ↓w_call, ↓w_callio, ↓is_l, ↓is_r, ↓is_s, ↓mk_nil, ↓mk_r, ↓mk_l, ↓ib_n, ↓ib_s, ↓ib_none, ↓wfl_n, ↓wfl_r, ↓w_run, ↓iv_n, ↓iv_z, ↓iv_s, ↓w_next, ↓w_break, ↓w_cont, ↓w_never, ↓wx_n, ↓wx_r, ↓wx_b, ↓wx_c, ↓w_seq, ↓w_set, ↓w_expr, ↓w_ret, ↓w_ifs, ↓wm_nil, ↓wm_c, ↓sm_nil, ↓sm_c, ↓w_par, ↓bt_n, ↓bt_t, ↓bt_l, ↓bts_n, ↓bts_c, ↓w_tgt, ↓w_it, ↓w_itV, ↓w_itF, ↓w_str, ↓w_itP, ↓w_for, ↓w_lc, ↓w_mut, ↓w_store, ↓st1, wp_ok, wp_no, wp_ex, br_t, br_f, br_not, gv_z, gv_s, sv_z, sv_s, nk_int, nk_bl, nk_str, nk_tup, nk_ro, nk_non, nk_lt, nk_lf, nk_f, kk_0, kk_1, wpo_some, wpo_none, wpo_map, wpo_bind, o_add, o_adds, o_addl, o_addt, o_sub, o_mul, o_mull, o_fd, o_md, o_pw, o_ng, o_lt, o_le, o_gt, o_ge, o_abs, o_int, o_intb, o_is_ti, o_is_tb, o_is_ts, o_is_tt, o_is_tl, o_tup, o_lst, o_lenl, o_lent, o_lenr, o_lens, o_ixl, o_ixt, o_ixr, ixL_o, ixL_m1, gRepr_ok, gEq_ok, gNe_ok, eqD_int, eqD_bl, eqD_non, eqD_tup, eqD_lst, eqD_str, eqDs_nil, eqDs_c, eqDs_cn, eqDs_nc, eqDs_ints, o_eqS, o_neS, o_eqI, o_neI, o_eqB, o_neB, o_allB, o_anyB, o_sumI, o_sumM, o_allM, o_anyM, o_max2, o_min2, o_maxI, o_minI, o_tuple, o_tuplet, o_list, o_listt, o_rng1, o_rng2, o_append, o_pop, o_set, wk_l, wk_t, wk_r, wk_s, mu_l, mu_d, d_mut_l, d_mut_i, d_mut_b, d_mut_s, d_mut_t, d_mut_n, ixN_o, List.set_cons_zero, List.set_cons_succ, List.getLast?_concat, o_sumAI, o_sumAM, o_sumAt, o_sumAt2, o_maxA2, o_minA2, o_maxAI, o_minAI, o_maxAt, o_minAt, o_inSS, o_ninSS, o_ixs, o_join, o_isb, o_isn, o_notb, o_notn, in_int, in_non, in_tup, in_lst, in_str, in_bl, o_inI, o_inIt, o_ninI, o_ninIt, o_inS, o_inSt, o_lrg1, o_lrg2, o_trg1, o_popAtI, o_sortI, o_sortIt, o_extend, o_revL, o_zipl, o_zipt, o_rev, o_enum, wfp_nil, wfp_r, wfp_l, fo_n, fo_c, fo_b, fo_r, un_nil, un_c, re_nil, re_c, ov_nil, ov_c, kOk_0, kOk_1, kOk_2, kOk_n, o_minB2, o_maxB2, o_minBI, o_maxBI, o_minBt, o_maxBt, o_sortBI, o_sortBIt, o_dict1i, o_dict1s, o_dicK, o_dicT, nk_dt, nk_df, d_mut_dic, o_is_td, in_dic, o_is_tn, o_enumAl, o_enumAt, o_mulT, o_dT0, o_putT, nk_dT, mut_dT, List.map_cons, List.map_nil, List.length_cons, List.length_nil, List.replicate_succ, List.replicate_zero, List.cons_append, List.nil_append, List.append_nil, List.length_map, List.length_range, List.drop_succ_cons, List.drop_zero, List.zip_cons_cons, List.zip_nil_right, List.zip_nil_left, List.getElem?_cons_zero, List.getElem?_cons_succ, Option.join_some, Option.join_none, Option.map_some, Option.map_none, decide_true, decide_false, decide_not, Bool.not_true, Bool.not_false, Bool.not_not, Bool.true_and, Bool.false_and, Bool.and_true, Bool.and_false, true_and, and_true, false_and, and_false, not_true_eq_false, not_false_eq_true, if_true, if_false, reduceCtorEq, Option.some.injEq, and_self, mb_l, mb_r, Nat.reduceAdd, Nat.reducePow, Nat.reduceSub, Nat.reduceMul, Nat.reduceLT, Nat.reduceGT, Nat.reduceLeDiff, Nat.reduceEqDiff, Nat.reduceBEq, Nat.reduceBNe, Int.reduceAdd, Int.reduceSub, Int.reduceMul, Int.reduceNeg, Int.reduceDiv, Int.reduceMod, Int.reduceLT, Int.reduceLE, Int.reduceGT, Int.reduceGE, Int.reduceEq, Int.reduceNe, Int.reduceToNat, Int.reducePow, Int.reduceAbs, Int.reduceBEq, Int.reduceBNe, reduceIte, Nat.zero_add, Nat.sub_zero, Nat.add_zero, Int.natCast_one, Int.cast_ofNat_Int]
    refine ⟨by omega, ?_⟩
    have key : cd W H i = true → ∃ x12, [some (.ro (ns.map D.int), 0), some (h, 1), x2, some (.int W, 0), some (.int H, 0), some (.tup [.int W, .int H], 0), some (.int (gd W H), 0), some (.int (ls W H), 0), x8, x9, x10, some (dT (if (fo (1 + (i : Int)) W, fo (1 + (i : Int)) H) ∈ hl W H i then hl W H i else hl W H i ++ [(fo (1 + (i : Int)) W, fo (1 + (i : Int)) H)]), 1), some (.int (1 + (i : Int)), 0), x13, x14, x15] = [some (.ro (ns.map D.int), 0), some (h, 1), x2, some (.int W, 0), some (.int H, 0), some (.tup [.int W, .int H], 0), some (.int (gd W H), 0), some (.int (ls W H), 0), x8, x9, x10, some (dT (hl W H (i + 1)), 1), x12, x13, x14, x15] := fun c => ⟨_, by
      have := hn c
      unfold pt at this
      rw [hl_s, if_pos c, if_neg this]
      rfl⟩
    refine br_ci (fun e => ?_) (fun e => ?_)
    · have c : cd W H i = true := decide_eq_true (.inl e)
      simp (disch := first | assumption | omega | (refine okR_int ?_ ?_ <;> omega) | exact OkE.str | (refine okE_of ?_ ?_ <;> (simp only [okE_tup, okE_lst, okEs_c, okEs_nil, okEs_ints, okE_int, okE_bl, okE_non, okE_str, okEs_app, Bool.and_self, Bool.and_true] <;> decide +kernel))) only [↓w_c, ↓w_var, ↓w_mv, ↓wa_nil, ↓wa_vw, ↓wa_ev, ↓wf_nil, ↓wf_l, ↓wf_r, ↓w_ap, ↓wi_nil, ↓wi_r, ↓w_apF, ↓wb_b, ↓w_tb, ↓w_tru, ↓tr1, ↓tr_bl, ↓tr_int, ↓tr_non, ↓tr_lst, ↓tr_tup, ↓w_not, ↓w_and, ↓w_or, ↓w_yes, ↓w_ife, ↓w_bl, ↓w_andV, ↓w_orV, ↓w_notV, ↓wn_i, ↓w_int, ↓w_chain, ↓hk_int, ↓hk_0, ↓hk_2, ↓hk_l, ↓hd_nil, ↓hd_l, ↓hd_r, ↓w_call, ↓w_callio, ↓is_l, ↓is_r, ↓is_s, ↓mk_nil, ↓mk_r, ↓mk_l, ↓ib_n, ↓ib_s, ↓ib_none, ↓wfl_n, ↓wfl_r, ↓w_run, ↓iv_n, ↓iv_z, ↓iv_s, ↓w_next, ↓w_break, ↓w_cont, ↓w_never, ↓wx_n, ↓wx_r, ↓wx_b, ↓wx_c, ↓w_seq, ↓w_set, ↓w_expr, ↓w_ret, ↓w_ifs, ↓wm_nil, ↓wm_c, ↓sm_nil, ↓sm_c, ↓w_par, ↓bt_n, ↓bt_t, ↓bt_l, ↓bts_n, ↓bts_c, ↓w_tgt, ↓w_it, ↓w_itV, ↓w_itF, ↓w_str, ↓w_itP, ↓w_for, ↓w_lc, ↓w_mut, ↓w_store, ↓st1, wp_ok, wp_no, wp_ex, br_t, br_f, br_not, gv_z, gv_s, sv_z, sv_s, nk_int, nk_bl, nk_str, nk_tup, nk_ro, nk_non, nk_lt, nk_lf, nk_f, kk_0, kk_1, wpo_some, wpo_none, wpo_map, wpo_bind, o_add, o_adds, o_addl, o_addt, o_sub, o_mul, o_mull, o_fd, o_md, o_pw, o_ng, o_lt, o_le, o_gt, o_ge, o_abs, o_int, o_intb, o_is_ti, o_is_tb, o_is_ts, o_is_tt, o_is_tl, o_tup, o_lst, o_lenl, o_lent, o_lenr, o_lens, o_ixl, o_ixt, o_ixr, ixL_o, ixL_m1, gRepr_ok, gEq_ok, gNe_ok, eqD_int, eqD_bl, eqD_non, eqD_tup, eqD_lst, eqD_str, eqDs_nil, eqDs_c, eqDs_cn, eqDs_nc, eqDs_ints, o_eqS, o_neS, o_eqI, o_neI, o_eqB, o_neB, o_allB, o_anyB, o_sumI, o_sumM, o_allM, o_anyM, o_max2, o_min2, o_maxI, o_minI, o_tuple, o_tuplet, o_list, o_listt, o_rng1, o_rng2, o_append, o_pop, o_set, wk_l, wk_t, wk_r, wk_s, mu_l, mu_d, d_mut_l, d_mut_i, d_mut_b, d_mut_s, d_mut_t, d_mut_n, ixN_o, List.set_cons_zero, List.set_cons_succ, List.getLast?_concat, o_sumAI, o_sumAM, o_sumAt, o_sumAt2, o_maxA2, o_minA2, o_maxAI, o_minAI, o_maxAt, o_minAt, o_inSS, o_ninSS, o_ixs, o_join, o_isb, o_isn, o_notb, o_notn, in_int, in_non, in_tup, in_lst, in_str, in_bl, o_inI, o_inIt, o_ninI, o_ninIt, o_inS, o_inSt, o_lrg1, o_lrg2, o_trg1, o_popAtI, o_sortI, o_sortIt, o_extend, o_revL, o_zipl, o_zipt, o_rev, o_enum, wfp_nil, wfp_r, wfp_l, fo_n, fo_c, fo_b, fo_r, un_nil, un_c, re_nil, re_c, ov_nil, ov_c, kOk_0, kOk_1, kOk_2, kOk_n, o_minB2, o_maxB2, o_minBI, o_maxBI, o_minBt, o_maxBt, o_sortBI, o_sortBIt, o_dict1i, o_dict1s, o_dicK, o_dicT, nk_dt, nk_df, d_mut_dic, o_is_td, in_dic, o_is_tn, o_enumAl, o_enumAt, o_mulT, o_dT0, o_putT, nk_dT, mut_dT, List.map_cons, List.map_nil, List.length_cons, List.length_nil, List.replicate_succ, List.replicate_zero, List.cons_append, List.nil_append, List.append_nil, List.length_map, List.length_range, List.drop_succ_cons, List.drop_zero, List.zip_cons_cons, List.zip_nil_right, List.zip_nil_left, List.getElem?_cons_zero, List.getElem?_cons_succ, Option.join_some, Option.join_none, Option.map_some, Option.map_none, decide_true, decide_false, decide_not, Bool.not_true, Bool.not_false, Bool.not_not, Bool.true_and, Bool.false_and, Bool.and_true, Bool.and_false, true_and, and_true, false_and, and_false, not_true_eq_false, not_false_eq_true, if_true, if_false, reduceCtorEq, Option.some.injEq, and_self, mb_l, mb_r, Nat.reduceAdd, Nat.reducePow, Nat.reduceSub, Nat.reduceMul, Nat.reduceLT, Nat.reduceGT, Nat.reduceLeDiff, Nat.reduceEqDiff, Nat.reduceBEq, Nat.reduceBNe, Int.reduceAdd, Int.reduceSub, Int.reduceMul, Int.reduceNeg, Int.reduceDiv, Int.reduceMod, Int.reduceLT, Int.reduceLE, Int.reduceGT, Int.reduceGE, Int.reduceEq, Int.reduceNe, Int.reduceToNat, Int.reducePow, Int.reduceAbs, Int.reduceBEq, Int.reduceBNe, reduceIte, Nat.zero_add, Nat.sub_zero, Nat.add_zero, Int.natCast_one, Int.cast_ofNat_Int, q_law_at]
      exact ⟨by omega, key c⟩
    · simp (disch := first | assumption | omega | (refine okR_int ?_ ?_ <;> omega) | exact OkE.str | (refine okE_of ?_ ?_ <;> (simp only [okE_tup, okE_lst, okEs_c, okEs_nil, okEs_ints, okE_int, okE_bl, okE_non, okE_str, okEs_app, Bool.and_self, Bool.and_true] <;> decide +kernel))) only [↓w_c, ↓w_var, ↓w_mv, ↓wa_nil, ↓wa_vw, ↓wa_ev, ↓wf_nil, ↓wf_l, ↓wf_r, ↓w_ap, ↓wi_nil, ↓wi_r, ↓w_apF, ↓wb_b, ↓w_tb, ↓w_tru, ↓tr1, ↓tr_bl, ↓tr_int, ↓tr_non, ↓tr_lst, ↓tr_tup, ↓w_not, ↓w_and, ↓w_or, ↓w_yes, ↓w_ife, ↓w_bl, ↓w_andV, ↓w_orV, ↓w_notV, ↓wn_i, ↓w_int, ↓w_chain, ↓hk_int, ↓hk_0, ↓hk_2, ↓hk_l, ↓hd_nil, ↓hd_l, ↓hd_r, ↓w_call, ↓w_callio, ↓is_l, ↓is_r, ↓is_s, ↓mk_nil, ↓mk_r, ↓mk_l, ↓ib_n, ↓ib_s, ↓ib_none, ↓wfl_n, ↓wfl_r, ↓w_run, ↓iv_n, ↓iv_z, ↓iv_s, ↓w_next, ↓w_break, ↓w_cont, ↓w_never, ↓wx_n, ↓wx_r, ↓wx_b, ↓wx_c, ↓w_seq, ↓w_set, ↓w_expr, ↓w_ret, ↓w_ifs, ↓wm_nil, ↓wm_c, ↓sm_nil, ↓sm_c, ↓w_par, ↓bt_n, ↓bt_t, ↓bt_l, ↓bts_n, ↓bts_c, ↓w_tgt, ↓w_it, ↓w_itV, ↓w_itF, ↓w_str, ↓w_itP, ↓w_for, ↓w_lc, ↓w_mut, ↓w_store, ↓st1, wp_ok, wp_no, wp_ex, br_t, br_f, br_not, gv_z, gv_s, sv_z, sv_s, nk_int, nk_bl, nk_str, nk_tup, nk_ro, nk_non, nk_lt, nk_lf, nk_f, kk_0, kk_1, wpo_some, wpo_none, wpo_map, wpo_bind, o_add, o_adds, o_addl, o_addt, o_sub, o_mul, o_mull, o_fd, o_md, o_pw, o_ng, o_lt, o_le, o_gt, o_ge, o_abs, o_int, o_intb, o_is_ti, o_is_tb, o_is_ts, o_is_tt, o_is_tl, o_tup, o_lst, o_lenl, o_lent, o_lenr, o_lens, o_ixl, o_ixt, o_ixr, ixL_o, ixL_m1, gRepr_ok, gEq_ok, gNe_ok, eqD_int, eqD_bl, eqD_non, eqD_tup, eqD_lst, eqD_str, eqDs_nil, eqDs_c, eqDs_cn, eqDs_nc, eqDs_ints, o_eqS, o_neS, o_eqI, o_neI, o_eqB, o_neB, o_allB, o_anyB, o_sumI, o_sumM, o_allM, o_anyM, o_max2, o_min2, o_maxI, o_minI, o_tuple, o_tuplet, o_list, o_listt, o_rng1, o_rng2, o_append, o_pop, o_set, wk_l, wk_t, wk_r, wk_s, mu_l, mu_d, d_mut_l, d_mut_i, d_mut_b, d_mut_s, d_mut_t, d_mut_n, ixN_o, List.set_cons_zero, List.set_cons_succ, List.getLast?_concat, o_sumAI, o_sumAM, o_sumAt, o_sumAt2, o_maxA2, o_minA2, o_maxAI, o_minAI, o_maxAt, o_minAt, o_inSS, o_ninSS, o_ixs, o_join, o_isb, o_isn, o_notb, o_notn, in_int, in_non, in_tup, in_lst, in_str, in_bl, o_inI, o_inIt, o_ninI, o_ninIt, o_inS, o_inSt, o_lrg1, o_lrg2, o_trg1, o_popAtI, o_sortI, o_sortIt, o_extend, o_revL, o_zipl, o_zipt, o_rev, o_enum, wfp_nil, wfp_r, wfp_l, fo_n, fo_c, fo_b, fo_r, un_nil, un_c, re_nil, re_c, ov_nil, ov_c, kOk_0, kOk_1, kOk_2, kOk_n, o_minB2, o_maxB2, o_minBI, o_maxBI, o_minBt, o_maxBt, o_sortBI, o_sortBIt, o_dict1i, o_dict1s, o_dicK, o_dicT, nk_dt, nk_df, d_mut_dic, o_is_td, in_dic, o_is_tn, o_enumAl, o_enumAt, o_mulT, o_dT0, o_putT, nk_dT, mut_dT, List.map_cons, List.map_nil, List.length_cons, List.length_nil, List.replicate_succ, List.replicate_zero, List.cons_append, List.nil_append, List.append_nil, List.length_map, List.length_range, List.drop_succ_cons, List.drop_zero, List.zip_cons_cons, List.zip_nil_right, List.zip_nil_left, List.getElem?_cons_zero, List.getElem?_cons_succ, Option.join_some, Option.join_none, Option.map_some, Option.map_none, decide_true, decide_false, decide_not, Bool.not_true, Bool.not_false, Bool.not_not, Bool.true_and, Bool.false_and, Bool.and_true, Bool.and_false, true_and, and_true, false_and, and_false, not_true_eq_false, not_false_eq_true, if_true, if_false, reduceCtorEq, Option.some.injEq, and_self, mb_l, mb_r, Nat.reduceAdd, Nat.reducePow, Nat.reduceSub, Nat.reduceMul, Nat.reduceLT, Nat.reduceGT, Nat.reduceLeDiff, Nat.reduceEqDiff, Nat.reduceBEq, Nat.reduceBNe, Int.reduceAdd, Int.reduceSub, Int.reduceMul, Int.reduceNeg, Int.reduceDiv, Int.reduceMod, Int.reduceLT, Int.reduceLE, Int.reduceGT, Int.reduceGE, Int.reduceEq, Int.reduceNe, Int.reduceToNat, Int.reducePow, Int.reduceAbs, Int.reduceBEq, Int.reduceBNe, reduceIte, Nat.zero_add, Nat.sub_zero, Nat.add_zero, Int.natCast_one, Int.cast_ofNat_Int]
      refine ⟨by omega, ?_⟩
      refine br_ci (fun e' => ?_) (fun e' => ?_)
      · have c : cd W H i = true := decide_eq_true (.inr e')
        simp (disch := first | assumption | omega | (refine okR_int ?_ ?_ <;> omega) | exact OkE.str | (refine okE_of ?_ ?_ <;> (simp only [okE_tup, okE_lst, okEs_c, okEs_nil, okEs_ints, okE_int, okE_bl, okE_non, okE_str, okEs_app, Bool.and_self, Bool.and_true] <;> decide +kernel))) only [↓w_c, ↓w_var, ↓w_mv, ↓wa_nil, ↓wa_vw, ↓wa_ev, ↓wf_nil, ↓wf_l, ↓wf_r, ↓w_ap, ↓wi_nil, ↓wi_r, ↓w_apF, ↓wb_b, ↓w_tb, ↓w_tru, ↓tr1, ↓tr_bl, ↓tr_int, ↓tr_non, ↓tr_lst, ↓tr_tup, ↓w_not, ↓w_and, ↓w_or, ↓w_yes, ↓w_ife, ↓w_bl, ↓w_andV, ↓w_orV, ↓w_notV, ↓wn_i, ↓w_int, ↓w_chain, ↓hk_int, ↓hk_0, ↓hk_2, ↓hk_l, ↓hd_nil, ↓hd_l, ↓hd_r, ↓w_call, ↓w_callio, ↓is_l, ↓is_r, ↓is_s, ↓mk_nil, ↓mk_r, ↓mk_l, ↓ib_n, ↓ib_s, ↓ib_none, ↓wfl_n, ↓wfl_r, ↓w_run, ↓iv_n, ↓iv_z, ↓iv_s, ↓w_next, ↓w_break, ↓w_cont, ↓w_never, ↓wx_n, ↓wx_r, ↓wx_b, ↓wx_c, ↓w_seq, ↓w_set, ↓w_expr, ↓w_ret, ↓w_ifs, ↓wm_nil, ↓wm_c, ↓sm_nil, ↓sm_c, ↓w_par, ↓bt_n, ↓bt_t, ↓bt_l, ↓bts_n, ↓bts_c, ↓w_tgt, ↓w_it, ↓w_itV, ↓w_itF, ↓w_str, ↓w_itP, ↓w_for, ↓w_lc, ↓w_mut, ↓w_store, ↓st1, wp_ok, wp_no, wp_ex, br_t, br_f, br_not, gv_z, gv_s, sv_z, sv_s, nk_int, nk_bl, nk_str, nk_tup, nk_ro, nk_non, nk_lt, nk_lf, nk_f, kk_0, kk_1, wpo_some, wpo_none, wpo_map, wpo_bind, o_add, o_adds, o_addl, o_addt, o_sub, o_mul, o_mull, o_fd, o_md, o_pw, o_ng, o_lt, o_le, o_gt, o_ge, o_abs, o_int, o_intb, o_is_ti, o_is_tb, o_is_ts, o_is_tt, o_is_tl, o_tup, o_lst, o_lenl, o_lent, o_lenr, o_lens, o_ixl, o_ixt, o_ixr, ixL_o, ixL_m1, gRepr_ok, gEq_ok, gNe_ok, eqD_int, eqD_bl, eqD_non, eqD_tup, eqD_lst, eqD_str, eqDs_nil, eqDs_c, eqDs_cn, eqDs_nc, eqDs_ints, o_eqS, o_neS, o_eqI, o_neI, o_eqB, o_neB, o_allB, o_anyB, o_sumI, o_sumM, o_allM, o_anyM, o_max2, o_min2, o_maxI, o_minI, o_tuple, o_tuplet, o_list, o_listt, o_rng1, o_rng2, o_append, o_pop, o_set, wk_l, wk_t, wk_r, wk_s, mu_l, mu_d, d_mut_l, d_mut_i, d_mut_b, d_mut_s, d_mut_t, d_mut_n, ixN_o, List.set_cons_zero, List.set_cons_succ, List.getLast?_concat, o_sumAI, o_sumAM, o_sumAt, o_sumAt2, o_maxA2, o_minA2, o_maxAI, o_minAI, o_maxAt, o_minAt, o_inSS, o_ninSS, o_ixs, o_join, o_isb, o_isn, o_notb, o_notn, in_int, in_non, in_tup, in_lst, in_str, in_bl, o_inI, o_inIt, o_ninI, o_ninIt, o_inS, o_inSt, o_lrg1, o_lrg2, o_trg1, o_popAtI, o_sortI, o_sortIt, o_extend, o_revL, o_zipl, o_zipt, o_rev, o_enum, wfp_nil, wfp_r, wfp_l, fo_n, fo_c, fo_b, fo_r, un_nil, un_c, re_nil, re_c, ov_nil, ov_c, kOk_0, kOk_1, kOk_2, kOk_n, o_minB2, o_maxB2, o_minBI, o_maxBI, o_minBt, o_maxBt, o_sortBI, o_sortBIt, o_dict1i, o_dict1s, o_dicK, o_dicT, nk_dt, nk_df, d_mut_dic, o_is_td, in_dic, o_is_tn, o_enumAl, o_enumAt, o_mulT, o_dT0, o_putT, nk_dT, mut_dT, List.map_cons, List.map_nil, List.length_cons, List.length_nil, List.replicate_succ, List.replicate_zero, List.cons_append, List.nil_append, List.append_nil, List.length_map, List.length_range, List.drop_succ_cons, List.drop_zero, List.zip_cons_cons, List.zip_nil_right, List.zip_nil_left, List.getElem?_cons_zero, List.getElem?_cons_succ, Option.join_some, Option.join_none, Option.map_some, Option.map_none, decide_true, decide_false, decide_not, Bool.not_true, Bool.not_false, Bool.not_not, Bool.true_and, Bool.false_and, Bool.and_true, Bool.and_false, true_and, and_true, false_and, and_false, not_true_eq_false, not_false_eq_true, if_true, if_false, reduceCtorEq, Option.some.injEq, and_self, mb_l, mb_r, Nat.reduceAdd, Nat.reducePow, Nat.reduceSub, Nat.reduceMul, Nat.reduceLT, Nat.reduceGT, Nat.reduceLeDiff, Nat.reduceEqDiff, Nat.reduceBEq, Nat.reduceBNe, Int.reduceAdd, Int.reduceSub, Int.reduceMul, Int.reduceNeg, Int.reduceDiv, Int.reduceMod, Int.reduceLT, Int.reduceLE, Int.reduceGT, Int.reduceGE, Int.reduceEq, Int.reduceNe, Int.reduceToNat, Int.reducePow, Int.reduceAbs, Int.reduceBEq, Int.reduceBNe, reduceIte, Nat.zero_add, Nat.sub_zero, Nat.add_zero, Int.natCast_one, Int.cast_ofNat_Int, q_law_at]
        exact ⟨by omega, key c⟩
      · have c : ¬ cd W H i = true := fun z => by
          rcases of_decide_eq_true z with z | z
          · exact e z
          · exact e' z
        simp (disch := first | assumption | omega | (refine okR_int ?_ ?_ <;> omega) | exact OkE.str | (refine okE_of ?_ ?_ <;> (simp only [okE_tup, okE_lst, okEs_c, okEs_nil, okEs_ints, okE_int, okE_bl, okE_non, okE_str, okEs_app, Bool.and_self, Bool.and_true] <;> decide +kernel))) only [↓w_c, ↓w_var, ↓w_mv, ↓wa_nil, ↓wa_vw, ↓wa_ev, ↓wf_nil, ↓wf_l, ↓wf_r, ↓w_ap, ↓wi_nil, ↓wi_r, ↓w_apF, ↓wb_b, ↓w_tb, ↓w_tru, ↓tr1, ↓tr_bl, ↓tr_int, ↓tr_non, ↓tr_lst, ↓tr_tup, ↓w_not, ↓w_and, ↓w_or, ↓w_yes, ↓w_ife, ↓w_bl, ↓w_andV, ↓w_orV, ↓w_notV, ↓wn_i, ↓w_int, ↓w_chain, ↓hk_int, ↓hk_0, ↓hk_2, ↓hk_l, ↓hd_nil, ↓hd_l, ↓hd_r, ↓w_call, ↓w_callio, ↓is_l, ↓is_r, ↓is_s, ↓mk_nil, ↓mk_r, ↓mk_l, ↓ib_n, ↓ib_s, ↓ib_none, ↓wfl_n, ↓wfl_r, ↓w_run, ↓iv_n, ↓iv_z, ↓iv_s, ↓w_next, ↓w_break, ↓w_cont, ↓w_never, ↓wx_n, ↓wx_r, ↓wx_b, ↓wx_c, ↓w_seq, ↓w_set, ↓w_expr, ↓w_ret, ↓w_ifs, ↓wm_nil, ↓wm_c, ↓sm_nil, ↓sm_c, ↓w_par, ↓bt_n, ↓bt_t, ↓bt_l, ↓bts_n, ↓bts_c, ↓w_tgt, ↓w_it, ↓w_itV, ↓w_itF, ↓w_str, ↓w_itP, ↓w_for, ↓w_lc, ↓w_mut, ↓w_store, ↓st1, wp_ok, wp_no, wp_ex, br_t, br_f, br_not, gv_z, gv_s, sv_z, sv_s, nk_int, nk_bl, nk_str, nk_tup, nk_ro, nk_non, nk_lt, nk_lf, nk_f, kk_0, kk_1, wpo_some, wpo_none, wpo_map, wpo_bind, o_add, o_adds, o_addl, o_addt, o_sub, o_mul, o_mull, o_fd, o_md, o_pw, o_ng, o_lt, o_le, o_gt, o_ge, o_abs, o_int, o_intb, o_is_ti, o_is_tb, o_is_ts, o_is_tt, o_is_tl, o_tup, o_lst, o_lenl, o_lent, o_lenr, o_lens, o_ixl, o_ixt, o_ixr, ixL_o, ixL_m1, gRepr_ok, gEq_ok, gNe_ok, eqD_int, eqD_bl, eqD_non, eqD_tup, eqD_lst, eqD_str, eqDs_nil, eqDs_c, eqDs_cn, eqDs_nc, eqDs_ints, o_eqS, o_neS, o_eqI, o_neI, o_eqB, o_neB, o_allB, o_anyB, o_sumI, o_sumM, o_allM, o_anyM, o_max2, o_min2, o_maxI, o_minI, o_tuple, o_tuplet, o_list, o_listt, o_rng1, o_rng2, o_append, o_pop, o_set, wk_l, wk_t, wk_r, wk_s, mu_l, mu_d, d_mut_l, d_mut_i, d_mut_b, d_mut_s, d_mut_t, d_mut_n, ixN_o, List.set_cons_zero, List.set_cons_succ, List.getLast?_concat, o_sumAI, o_sumAM, o_sumAt, o_sumAt2, o_maxA2, o_minA2, o_maxAI, o_minAI, o_maxAt, o_minAt, o_inSS, o_ninSS, o_ixs, o_join, o_isb, o_isn, o_notb, o_notn, in_int, in_non, in_tup, in_lst, in_str, in_bl, o_inI, o_inIt, o_ninI, o_ninIt, o_inS, o_inSt, o_lrg1, o_lrg2, o_trg1, o_popAtI, o_sortI, o_sortIt, o_extend, o_revL, o_zipl, o_zipt, o_rev, o_enum, wfp_nil, wfp_r, wfp_l, fo_n, fo_c, fo_b, fo_r, un_nil, un_c, re_nil, re_c, ov_nil, ov_c, kOk_0, kOk_1, kOk_2, kOk_n, o_minB2, o_maxB2, o_minBI, o_maxBI, o_minBt, o_maxBt, o_sortBI, o_sortBIt, o_dict1i, o_dict1s, o_dicK, o_dicT, nk_dt, nk_df, d_mut_dic, o_is_td, in_dic, o_is_tn, o_enumAl, o_enumAt, o_mulT, o_dT0, o_putT, nk_dT, mut_dT, List.map_cons, List.map_nil, List.length_cons, List.length_nil, List.replicate_succ, List.replicate_zero, List.cons_append, List.nil_append, List.append_nil, List.length_map, List.length_range, List.drop_succ_cons, List.drop_zero, List.zip_cons_cons, List.zip_nil_right, List.zip_nil_left, List.getElem?_cons_zero, List.getElem?_cons_succ, Option.join_some, Option.join_none, Option.map_some, Option.map_none, decide_true, decide_false, decide_not, Bool.not_true, Bool.not_false, Bool.not_not, Bool.true_and, Bool.false_and, Bool.and_true, Bool.and_false, true_and, and_true, false_and, and_false, not_true_eq_false, not_false_eq_true, if_true, if_false, reduceCtorEq, Option.some.injEq, and_self, mb_l, mb_r, Nat.reduceAdd, Nat.reducePow, Nat.reduceSub, Nat.reduceMul, Nat.reduceLT, Nat.reduceGT, Nat.reduceLeDiff, Nat.reduceEqDiff, Nat.reduceBEq, Nat.reduceBNe, Int.reduceAdd, Int.reduceSub, Int.reduceMul, Int.reduceNeg, Int.reduceDiv, Int.reduceMod, Int.reduceLT, Int.reduceLE, Int.reduceGT, Int.reduceGE, Int.reduceEq, Int.reduceNe, Int.reduceToNat, Int.reducePow, Int.reduceAbs, Int.reduceBEq, Int.reduceBNe, reduceIte, Nat.zero_add, Nat.sub_zero, Nat.add_zero, Int.natCast_one, Int.cast_ofNat_Int]
        exact ⟨_, by rw [hl_s, if_neg c, List.append_nil]⟩
  · rintro st ⟨x12, rfl⟩
    rw [← pts_hl w1 h1]
    exact tail2 hh oW oH q
theorem tail0 {ns : List Int} {W H : Nat} {h : D} {x2 x8 x9 x10 x11 x12 x13 x14 x15 : Option (D × Nat)} {Q : Fl → AS → Prop} (hh : HandOk h) (oW : On W) (oH : On H) (q : Post ns Q) : wp (t_law_t0 [some (.ro (ns.map D.int), 0), some (h, 1), x2, some (.int W, 0), some (.int H, 0), some (.tup [.int W, .int H], 0), some (.int (gd W H), 0), some (.int (ls W H), 0), x8, x9, x10, x11, x12, x13, x14, x15]) Q := by
  have w1 := oW.ok
  have h1 := oH.ok
  have lb := ls_bd w1 h1
  simp (disch := first | assumption | omega | (refine okR_int ?_ ?_ <;> omega) | exact OkE.str | (refine okE_of ?_ ?_ <;> (simp only [okE_tup, okE_lst, okEs_c, okEs_nil, okEs_ints, okE_int, okE_bl, okE_non, okE_str, okEs_app, Bool.and_self, Bool.and_true] <;> decide +kernel))) only [↓w_c, ↓w_var, ↓w_mv, ↓wa_nil, ↓wa_vw, ↓wa_ev, ↓wf_nil, ↓wf_l, ↓wf_r, ↓w_ap, ↓wi_nil, ↓wi_r, ↓w_apF, ↓wb_b, ↓w_tb, ↓w_tru, ↓tr1, ↓tr_bl, ↓tr_int, ↓tr_non, ↓tr_lst, ↓tr_tup, ↓w_not, ↓w_and, ↓w_or, ↓w_yes, ↓w_ife, ↓w_bl, ↓w_andV, ↓w_orV, ↓w_notV, ↓wn_i, ↓w_int, ↓w_chain, ↓hk_int, ↓hk_0, ↓hk_2, ↓hk_l, ↓hd_nil, ↓hd_l, ↓hd_r, ↓w_call, ↓w_callio, ↓is_l, ↓is_r, ↓is_s, ↓mk_nil, ↓mk_r, ↓mk_l, ↓ib_n, ↓ib_s, ↓ib_none, ↓wfl_n, ↓wfl_r, ↓w_run, ↓iv_n, ↓iv_z, ↓iv_s, ↓w_next, ↓w_break, ↓w_cont, ↓w_never, ↓wx_n, ↓wx_r, ↓wx_b, ↓wx_c, ↓w_seq, ↓w_set, ↓w_expr, ↓w_ret, ↓w_ifs, ↓wm_nil, ↓wm_c, ↓sm_nil, ↓sm_c, ↓w_par, ↓bt_n, ↓bt_t, ↓bt_l, ↓bts_n, ↓bts_c, ↓w_tgt, ↓w_it, ↓w_itV, ↓w_itF, ↓w_str, ↓w_itP, ↓w_for, ↓w_lc, ↓w_mut, ↓w_store, ↓st1, wp_ok, wp_no, wp_ex, br_t, br_f, br_not, gv_z, gv_s, sv_z, sv_s, nk_int, nk_bl, nk_str, nk_tup, nk_ro, nk_non, nk_lt, nk_lf, nk_f, kk_0, kk_1, wpo_some, wpo_none, wpo_map, wpo_bind, o_add, o_adds, o_addl, o_addt, o_sub, o_mul, o_mull, o_fd, o_md, o_pw, o_ng, o_lt, o_le, o_gt, o_ge, o_abs, o_int, o_intb, o_is_ti, o_is_tb, o_is_ts, o_is_tt, o_is_tl, o_tup, o_lst, o_lenl, o_lent, o_lenr, o_lens, o_ixl, o_ixt, o_ixr, ixL_o, ixL_m1, gRepr_ok, gEq_ok, gNe_ok, eqD_int, eqD_bl, eqD_non, eqD_tup, eqD_lst, eqD_str, eqDs_nil, eqDs_c, eqDs_cn, eqDs_nc, eqDs_ints, o_eqS, o_neS, o_eqI, o_neI, o_eqB, o_neB, o_allB, o_anyB, o_sumI, o_sumM, o_allM, o_anyM, o_max2, o_min2, o_maxI, o_minI, o_tuple, o_tuplet, o_list, o_listt, o_rng1, o_rng2, o_append, o_pop, o_set, wk_l, wk_t, wk_r, wk_s, mu_l, mu_d, d_mut_l, d_mut_i, d_mut_b, d_mut_s, d_mut_t, d_mut_n, ixN_o, List.set_cons_zero, List.set_cons_succ, List.getLast?_concat, o_sumAI, o_sumAM, o_sumAt, o_sumAt2, o_maxA2, o_minA2, o_maxAI, o_minAI, o_maxAt, o_minAt, o_inSS, o_ninSS, o_ixs, o_join, o_isb, o_isn, o_notb, o_notn, in_int, in_non, in_tup, in_lst, in_str, in_bl, o_inI, o_inIt, o_ninI, o_ninIt, o_inS, o_inSt, o_lrg1, o_lrg2, o_trg1, o_popAtI, o_sortI, o_sortIt, o_extend, o_revL, o_zipl, o_zipt, o_rev, o_enum, wfp_nil, wfp_r, wfp_l, fo_n, fo_c, fo_b, fo_r, un_nil, un_c, re_nil, re_c, ov_nil, ov_c, kOk_0, kOk_1, kOk_2, kOk_n, o_minB2, o_maxB2, o_minBI, o_maxBI, o_minBt, o_maxBt, o_sortBI, o_sortBIt, o_dict1i, o_dict1s, o_dicK, o_dicT, nk_dt, nk_df, d_mut_dic, o_is_td, in_dic, o_is_tn, o_enumAl, o_enumAt, o_mulT, o_dT0, o_putT, nk_dT, mut_dT, List.map_cons, List.map_nil, List.length_cons, List.length_nil, List.replicate_succ, List.replicate_zero, List.cons_append, List.nil_append, List.append_nil, List.length_map, List.length_range, List.drop_succ_cons, List.drop_zero, List.zip_cons_cons, List.zip_nil_right, List.zip_nil_left, List.getElem?_cons_zero, List.getElem?_cons_succ, Option.join_some, Option.join_none, Option.map_some, Option.map_none, decide_true, decide_false, decide_not, Bool.not_true, Bool.not_false, Bool.not_not, Bool.true_and, Bool.false_and, Bool.and_true, Bool.and_false, true_and, and_true, false_and, and_false, not_true_eq_false, not_false_eq_true, if_true, if_false, reduceCtorEq, Option.some.injEq, and_self, mb_l, mb_r, Nat.reduceAdd, Nat.reducePow, Nat.reduceSub, Nat.reduceMul, Nat.reduceLT, Nat.reduceGT, Nat.reduceLeDiff, Nat.reduceEqDiff, Nat.reduceBEq, Nat.reduceBNe, Int.reduceAdd, Int.reduceSub, Int.reduceMul, Int.reduceNeg, Int.reduceDiv, Int.reduceMod, Int.reduceLT, Int.reduceLE, Int.reduceGT, Int.reduceGE, Int.reduceEq, Int.reduceNe, Int.reduceToNat, Int.reducePow, Int.reduceAbs, Int.reduceBEq, Int.reduceBNe, reduceIte, Nat.zero_add, Nat.sub_zero, Nat.add_zero, Int.natCast_one, Int.cast_ofNat_Int, t_law_t0]
  refine q_draw.go hh (by omega) (by omega) fun r h2 hr hh2 => ?_
  simp (disch := first | assumption | omega | (refine okR_int ?_ ?_ <;> omega) | exact OkE.str | (refine okE_of ?_ ?_ <;> (simp only [okE_tup, okE_lst, okEs_c, okEs_nil, okEs_ints, okE_int, okE_bl, okE_non, okE_str, okEs_app, Bool.and_self, Bool.and_true] <;> decide +kernel))) only [↓w_c, ↓w_var, ↓w_mv, ↓wa_nil, ↓wa_vw, ↓wa_ev, ↓wf_nil, ↓wf_l, ↓wf_r, ↓w_ap, ↓wi_nil, ↓wi_r, ↓w_apF, ↓wb_b, ↓w_tb, ↓w_tru, ↓tr1, ↓tr_bl, ↓tr_int, ↓tr_non, ↓tr_lst, ↓tr_tup, ↓w_not, ↓w_and, ↓w_or, ↓w_yes, ↓w_ife, ↓w_bl, ↓w_andV, ↓w_orV, ↓w_notV, ↓wn_i, ↓w_int, ↓w_chain, ↓hk_int, ↓hk_0, ↓hk_2, ↓hk_l, ↓hd_nil, ↓hd_l, ↓hd_r, ↓w_call, ↓w_callio, ↓is_l, ↓is_r, ↓is_s, ↓mk_nil, ↓mk_r, ↓mk_l, ↓ib_n, ↓ib_s, ↓ib_none, ↓wfl_n, ↓wfl_r, ↓w_run, ↓iv_n, ↓iv_z, ↓iv_s, ↓w_next, ↓w_break, ↓w_cont, ↓w_never, ↓wx_n, ↓wx_r, ↓wx_b, ↓wx_c, ↓w_seq, ↓w_set, ↓w_expr, ↓w_ret, ↓w_ifs, ↓wm_nil, ↓wm_c, ↓sm_nil, ↓sm_c, ↓w_par, ↓bt_n, ↓bt_t, ↓bt_l, ↓bts_n, ↓bts_c, ↓w_tgt, ↓w_it, ↓w_itV, ↓w_itF, ↓w_str, ↓w_itP, ↓w_for, ↓w_lc, ↓w_mut, ↓w_store, ↓st1, wp_ok, wp_no, wp_ex, br_t, br_f, br_not, gv_z, gv_s, sv_z, sv_s, nk_int, nk_bl, nk_str, nk_tup, nk_ro, nk_non, nk_lt, nk_lf, nk_f, kk_0, kk_1, wpo_some, wpo_none, wpo_map, wpo_bind, o_add, o_adds, o_addl, o_addt, o_sub, o_mul, o_mull, o_fd, o_md, o_pw, o_ng, o_lt, o_le, o_gt, o_ge, o_abs, o_int, o_intb, o_is_ti, o_is_tb, o_is_ts, o_is_tt, o_is_tl, o_tup, o_lst, o_lenl, o_lent, o_lenr, o_lens, o_ixl, o_ixt, o_ixr, ixL_o, ixL_m1, gRepr_ok, gEq_ok, gNe_ok, eqD_int, eqD_bl, eqD_non, eqD_tup, eqD_lst, eqD_str, eqDs_nil, eqDs_c, eqDs_cn, eqDs_nc, eqDs_ints, o_eqS, o_neS, o_eqI, o_neI, o_eqB, o_neB, o_allB, o_anyB, o_sumI, o_sumM, o_allM, o_anyM, o_max2, o_min2, o_maxI, o_minI, o_tuple, o_tuplet, o_list, o_listt, o_rng1, o_rng2, o_append, o_pop, o_set, wk_l, wk_t, wk_r, wk_s, mu_l, mu_d, d_mut_l, d_mut_i, d_mut_b, d_mut_s, d_mut_t, d_mut_n, ixN_o, List.set_cons_zero, List.set_cons_succ, List.getLast?_concat, o_sumAI, o_sumAM, o_sumAt, o_sumAt2, o_maxA2, o_minA2, o_maxAI, o_minAI, o_maxAt, o_minAt, o_inSS, o_ninSS, o_ixs, o_join, o_isb, o_isn, o_notb, o_notn, in_int, in_non, in_tup, in_lst, in_str, in_bl, o_inI, o_inIt, o_ninI, o_ninIt, o_inS, o_inSt, o_lrg1, o_lrg2, o_trg1, o_popAtI, o_sortI, o_sortIt, o_extend, o_revL, o_zipl, o_zipt, o_rev, o_enum, wfp_nil, wfp_r, wfp_l, fo_n, fo_c, fo_b, fo_r, un_nil, un_c, re_nil, re_c, ov_nil, ov_c, kOk_0, kOk_1, kOk_2, kOk_n, o_minB2, o_maxB2, o_minBI, o_maxBI, o_minBt, o_maxBt, o_sortBI, o_sortBIt, o_dict1i, o_dict1s, o_dicK, o_dicT, nk_dt, nk_df, d_mut_dic, o_is_td, in_dic, o_is_tn, o_enumAl, o_enumAt, o_mulT, o_dT0, o_putT, nk_dT, mut_dT, List.map_cons, List.map_nil, List.length_cons, List.length_nil, List.replicate_succ, List.replicate_zero, List.cons_append, List.nil_append, List.append_nil, List.length_map, List.length_range, List.drop_succ_cons, List.drop_zero, List.zip_cons_cons, List.zip_nil_right, List.zip_nil_left, List.getElem?_cons_zero, List.getElem?_cons_succ, Option.join_some, Option.join_none, Option.map_some, Option.map_none, decide_true, decide_false, decide_not, Bool.not_true, Bool.not_false, Bool.not_not, Bool.true_and, Bool.false_and, Bool.and_true, Bool.and_false, true_and, and_true, false_and, and_false, not_true_eq_false, not_false_eq_true, if_true, if_false, reduceCtorEq, Option.some.injEq, and_self, mb_l, mb_r, Nat.reduceAdd, Nat.reducePow, Nat.reduceSub, Nat.reduceMul, Nat.reduceLT, Nat.reduceGT, Nat.reduceLeDiff, Nat.reduceEqDiff, Nat.reduceBEq, Nat.reduceBNe, Int.reduceAdd, Int.reduceSub, Int.reduceMul, Int.reduceNeg, Int.reduceDiv, Int.reduceMod, Int.reduceLT, Int.reduceLE, Int.reduceGT, Int.reduceGE, Int.reduceEq, Int.reduceNe, Int.reduceToNat, Int.reducePow, Int.reduceAbs, Int.reduceBEq, Int.reduceBNe, reduceIte, Nat.zero_add, Nat.sub_zero, Nat.add_zero, Int.natCast_one, Int.cast_ofNat_Int]
  refine q_draw.go hh2 (by omega) (by omega) fun r' h3 hr' hh3 => ?_
  simp (disch := first | assumption | omega | (refine okR_int ?_ ?_ <;> omega) | exact OkE.str | (refine okE_of ?_ ?_ <;> (simp only [okE_tup, okE_lst, okEs_c, okEs_nil, okEs_ints, okE_int, okE_bl, okE_non, okE_str, okEs_app, Bool.and_self, Bool.and_true] <;> decide +kernel))) only [↓w_c, ↓w_var, ↓w_mv, ↓wa_nil, ↓wa_vw, ↓wa_ev, ↓wf_nil, ↓wf_l, ↓wf_r, ↓w_ap, ↓wi_nil, ↓wi_r, ↓w_apF, ↓wb_b, ↓w_tb, ↓w_tru, ↓tr1, ↓tr_bl, ↓tr_int, ↓tr_non, ↓tr_lst, ↓tr_tup, ↓w_not, ↓w_and, ↓w_or, ↓w_yes, ↓w_ife, ↓w_bl, ↓w_andV, ↓w_orV, ↓w_notV, ↓wn_i, ↓w_int, ↓w_chain, ↓hk_int, ↓hk_0, ↓hk_2, ↓hk_l, ↓hd_nil, ↓hd_l, ↓hd_r, ↓w_call, ↓w_callio, ↓is_l, ↓is_r, ↓is_s, ↓mk_nil, ↓mk_r, ↓mk_l, ↓ib_n, ↓ib_s, ↓ib_none, ↓wfl_n, ↓wfl_r, ↓w_run, ↓iv_n, ↓iv_z, ↓iv_s, ↓w_next, ↓w_break, ↓w_cont, ↓w_never, ↓wx_n, ↓wx_r, ↓wx_b, ↓wx_c, ↓w_seq, ↓w_set, ↓w_expr, ↓w_ret, ↓w_ifs, ↓wm_nil, ↓wm_c, ↓sm_nil, ↓sm_c, ↓w_par, ↓bt_n, ↓bt_t, ↓bt_l, ↓bts_n, ↓bts_c, ↓w_tgt, ↓w_it, ↓w_itV, ↓w_itF, ↓w_str, ↓w_itP, ↓w_for, ↓w_lc, ↓w_mut, ↓w_store, ↓st1, wp_ok, wp_no, wp_ex, br_t, br_f, br_not, gv_z, gv_s, sv_z, sv_s, nk_int, nk_bl, nk_str, nk_tup, nk_ro, nk_non, nk_lt, nk_lf, nk_f, kk_0, kk_1, wpo_some, wpo_none, wpo_map, wpo_bind, o_add, o_adds, o_addl, o_addt, o_sub, o_mul, o_mull, o_fd, o_md, o_pw, o_ng, o_lt, o_le, o_gt, o_ge, o_abs, o_int, o_intb, o_is_ti, o_is_tb, o_is_ts, o_is_tt, o_is_tl, o_tup, o_lst, o_lenl, o_lent, o_lenr, o_lens, o_ixl, o_ixt, o_ixr, ixL_o, ixL_m1, gRepr_ok, gEq_ok, gNe_ok, eqD_int, eqD_bl, eqD_non, eqD_tup, eqD_lst, eqD_str, eqDs_nil, eqDs_c, eqDs_cn, eqDs_nc, eqDs_ints, o_eqS, o_neS, o_eqI, o_neI, o_eqB, o_neB, o_allB, o_anyB, o_sumI, o_sumM, o_allM, o_anyM, o_max2, o_min2, o_maxI, o_minI, o_tuple, o_tuplet, o_list, o_listt, o_rng1, o_rng2, o_append, o_pop, o_set, wk_l, wk_t, wk_r, wk_s, mu_l, mu_d, d_mut_l, d_mut_i, d_mut_b, d_mut_s, d_mut_t, d_mut_n, ixN_o, List.set_cons_zero, List.set_cons_succ, List.getLast?_concat, o_sumAI, o_sumAM, o_sumAt, o_sumAt2, o_maxA2, o_minA2, o_maxAI, o_minAI, o_maxAt, o_minAt, o_inSS, o_ninSS, o_ixs, o_join, o_isb, o_isn, o_notb, o_notn, in_int, in_non, in_tup, in_lst, in_str, in_bl, o_inI, o_inIt, o_ninI, o_ninIt, o_inS, o_inSt, o_lrg1, o_lrg2, o_trg1, o_popAtI, o_sortI, o_sortIt, o_extend, o_revL, o_zipl, o_zipt, o_rev, o_enum, wfp_nil, wfp_r, wfp_l, fo_n, fo_c, fo_b, fo_r, un_nil, un_c, re_nil, re_c, ov_nil, ov_c, kOk_0, kOk_1, kOk_2, kOk_n, o_minB2, o_maxB2, o_minBI, o_maxBI, o_minBt, o_maxBt, o_sortBI, o_sortBIt, o_dict1i, o_dict1s, o_dicK, o_dicT, nk_dt, nk_df, d_mut_dic, o_is_td, in_dic, o_is_tn, o_enumAl, o_enumAt, o_mulT, o_dT0, o_putT, nk_dT, mut_dT, List.map_cons, List.map_nil, List.length_cons, List.length_nil, List.replicate_succ, List.replicate_zero, List.cons_append, List.nil_append, List.append_nil, List.length_map, List.length_range, List.drop_succ_cons, List.drop_zero, List.zip_cons_cons, List.zip_nil_right, List.zip_nil_left, List.getElem?_cons_zero, List.getElem?_cons_succ, Option.join_some, Option.join_none, Option.map_some, Option.map_none, decide_true, decide_false, decide_not, Bool.not_true, Bool.not_false, Bool.not_not, Bool.true_and, Bool.false_and, Bool.and_true, Bool.and_false, true_and, and_true, false_and, and_false, not_true_eq_false, not_false_eq_true, if_true, if_false, reduceCtorEq, Option.some.injEq, and_self, mb_l, mb_r, Nat.reduceAdd, Nat.reducePow, Nat.reduceSub, Nat.reduceMul, Nat.reduceLT, Nat.reduceGT, Nat.reduceLeDiff, Nat.reduceEqDiff, Nat.reduceBEq, Nat.reduceBNe, Int.reduceAdd, Int.reduceSub, Int.reduceMul, Int.reduceNeg, Int.reduceDiv, Int.reduceMod, Int.reduceLT, Int.reduceLE, Int.reduceGT, Int.reduceGE, Int.reduceEq, Int.reduceNe, Int.reduceToNat, Int.reducePow, Int.reduceAbs, Int.reduceBEq, Int.reduceBNe, reduceIte, Nat.zero_add, Nat.sub_zero, Nat.add_zero, Int.natCast_one, Int.cast_ofNat_Int]
  refine q_some.go (by omega) hh3 (by simp) (by simp) fun j d h4 hj hd hh4 => ?_
  have dv : ∃ v, d = .int v ∧ 0 ≤ v ∧ v ≤ 10000 := by
    rcases j with _ | _ | _ | j <;> simp at hd hj <;> subst hd
    · exact ⟨_, rfl, by omega, by omega⟩
    · exact ⟨_, rfl, by omega, by omega⟩
    · exact ⟨_, rfl, by omega, by omega⟩
  obtain ⟨v, rfl, v0, v1⟩ := dv
  have qp := q_place w1 h1 (x := v) ⟨v0, v1⟩
  have li : F__law_is 6 [(.tup [.int (fo v W), .int (fo v H)], 0), (.tup [.int (fo v W), .int (fo v H)], 0)] = .ok (.bl true) none := by
    have z : LI 6 (.tup [.int (fo v W), .int (fo v H)]) := li_e2 (n := 4) (fo v W, fo v H)
    exact z
  simp (disch := first | assumption | omega | (refine okR_int ?_ ?_ <;> omega) | exact OkE.str | (refine okE_of ?_ ?_ <;> (simp only [okE_tup, okE_lst, okEs_c, okEs_nil, okEs_ints, okE_int, okE_bl, okE_non, okE_str, okEs_app, Bool.and_self, Bool.and_true] <;> decide +kernel))) only [↓w_c, ↓w_var, ↓w_mv, ↓wa_nil, ↓wa_vw, ↓wa_ev, ↓wf_nil, ↓wf_l, ↓wf_r, ↓w_ap, ↓wi_nil, ↓wi_r, ↓w_apF, ↓wb_b, ↓w_tb, ↓w_tru, ↓tr1, ↓tr_bl, ↓tr_int, ↓tr_non, ↓tr_lst, ↓tr_tup, ↓w_not, ↓w_and, ↓w_or, ↓w_yes, ↓w_ife, ↓w_bl, ↓w_andV, ↓w_orV, ↓w_notV, ↓wn_i, ↓w_int, ↓w_chain, ↓hk_int, ↓hk_0, ↓hk_2, ↓hk_l, ↓hd_nil, ↓hd_l, ↓hd_r, ↓w_call, ↓w_callio, ↓is_l, ↓is_r, ↓is_s, ↓mk_nil, ↓mk_r, ↓mk_l, ↓ib_n, ↓ib_s, ↓ib_none, ↓wfl_n, ↓wfl_r, ↓w_run, ↓iv_n, ↓iv_z, ↓iv_s, ↓w_next, ↓w_break, ↓w_cont, ↓w_never, ↓wx_n, ↓wx_r, ↓wx_b, ↓wx_c, ↓w_seq, ↓w_set, ↓w_expr, ↓w_ret, ↓w_ifs, ↓wm_nil, ↓wm_c, ↓sm_nil, ↓sm_c, ↓w_par, ↓bt_n, ↓bt_t, ↓bt_l, ↓bts_n, ↓bts_c, ↓w_tgt, ↓w_it, ↓w_itV, ↓w_itF, ↓w_str, ↓w_itP, ↓w_for, ↓w_lc, ↓w_mut, ↓w_store, ↓st1, wp_ok, wp_no, wp_ex, br_t, br_f, br_not, gv_z, gv_s, sv_z, sv_s, nk_int, nk_bl, nk_str, nk_tup, nk_ro, nk_non, nk_lt, nk_lf, nk_f, kk_0, kk_1, wpo_some, wpo_none, wpo_map, wpo_bind, o_add, o_adds, o_addl, o_addt, o_sub, o_mul, o_mull, o_fd, o_md, o_pw, o_ng, o_lt, o_le, o_gt, o_ge, o_abs, o_int, o_intb, o_is_ti, o_is_tb, o_is_ts, o_is_tt, o_is_tl, o_tup, o_lst, o_lenl, o_lent, o_lenr, o_lens, o_ixl, o_ixt, o_ixr, ixL_o, ixL_m1, gRepr_ok, gEq_ok, gNe_ok, eqD_int, eqD_bl, eqD_non, eqD_tup, eqD_lst, eqD_str, eqDs_nil, eqDs_c, eqDs_cn, eqDs_nc, eqDs_ints, o_eqS, o_neS, o_eqI, o_neI, o_eqB, o_neB, o_allB, o_anyB, o_sumI, o_sumM, o_allM, o_anyM, o_max2, o_min2, o_maxI, o_minI, o_tuple, o_tuplet, o_list, o_listt, o_rng1, o_rng2, o_append, o_pop, o_set, wk_l, wk_t, wk_r, wk_s, mu_l, mu_d, d_mut_l, d_mut_i, d_mut_b, d_mut_s, d_mut_t, d_mut_n, ixN_o, List.set_cons_zero, List.set_cons_succ, List.getLast?_concat, o_sumAI, o_sumAM, o_sumAt, o_sumAt2, o_maxA2, o_minA2, o_maxAI, o_minAI, o_maxAt, o_minAt, o_inSS, o_ninSS, o_ixs, o_join, o_isb, o_isn, o_notb, o_notn, in_int, in_non, in_tup, in_lst, in_str, in_bl, o_inI, o_inIt, o_ninI, o_ninIt, o_inS, o_inSt, o_lrg1, o_lrg2, o_trg1, o_popAtI, o_sortI, o_sortIt, o_extend, o_revL, o_zipl, o_zipt, o_rev, o_enum, wfp_nil, wfp_r, wfp_l, fo_n, fo_c, fo_b, fo_r, un_nil, un_c, re_nil, re_c, ov_nil, ov_c, kOk_0, kOk_1, kOk_2, kOk_n, o_minB2, o_maxB2, o_minBI, o_maxBI, o_minBt, o_maxBt, o_sortBI, o_sortBIt, o_dict1i, o_dict1s, o_dicK, o_dicT, nk_dt, nk_df, d_mut_dic, o_is_td, in_dic, o_is_tn, o_enumAl, o_enumAt, o_mulT, o_dT0, o_putT, nk_dT, mut_dT, List.map_cons, List.map_nil, List.length_cons, List.length_nil, List.replicate_succ, List.replicate_zero, List.cons_append, List.nil_append, List.append_nil, List.length_map, List.length_range, List.drop_succ_cons, List.drop_zero, List.zip_cons_cons, List.zip_nil_right, List.zip_nil_left, List.getElem?_cons_zero, List.getElem?_cons_succ, Option.join_some, Option.join_none, Option.map_some, Option.map_none, decide_true, decide_false, decide_not, Bool.not_true, Bool.not_false, Bool.not_not, Bool.true_and, Bool.false_and, Bool.and_true, Bool.and_false, true_and, and_true, false_and, and_false, not_true_eq_false, not_false_eq_true, if_true, if_false, reduceCtorEq, Option.some.injEq, and_self, mb_l, mb_r, Nat.reduceAdd, Nat.reducePow, Nat.reduceSub, Nat.reduceMul, Nat.reduceLT, Nat.reduceGT, Nat.reduceLeDiff, Nat.reduceEqDiff, Nat.reduceBEq, Nat.reduceBNe, Int.reduceAdd, Int.reduceSub, Int.reduceMul, Int.reduceNeg, Int.reduceDiv, Int.reduceMod, Int.reduceLT, Int.reduceLE, Int.reduceGT, Int.reduceGE, Int.reduceEq, Int.reduceNe, Int.reduceToNat, Int.reducePow, Int.reduceAbs, Int.reduceBEq, Int.reduceBNe, reduceIte, Nat.zero_add, Nat.sub_zero, Nat.add_zero, Int.natCast_one, Int.cast_ofNat_Int, qp, q_law_at, li]
  have t := tail1 (x2 := x2) (x8 := x8) (x9 := x9) (x10 := some (.int v, 0)) (x11 := x11) (x12 := x12) (x13 := x13) (x14 := x14) (x15 := x15) (Q := Q) hh4 oW oH q
  exact t
theorem fo_L {W H : Nat} (oW : On W) (oH : On H) : fo (ls W H) W = (if ls W H / W % 2 = 1 then (W : Int) else 0) ∧ fo (ls W H) H = (if ls W H / H % 2 = 1 then (H : Int) else 0) := by
  have go : ∀ {w l : Int}, 1 ≤ w → w ∣ l → fo l w = if l / w % 2 = 1 then w else 0 := by
    intro w l hw dv
    have e := Int.ediv_mul_cancel dv
    generalize l / w = t at *
    subst e
    unfold fo
    rw [show (2 : Int) * w = w * 2 by omega, Int.mul_comm t w, Int.mul_emod_mul_of_pos _ _ (by omega)]
    have m0 := Int.emod_nonneg t (show (2 : Int) ≠ 0 by omega)
    have m1 := Int.emod_lt_of_pos t (show (0 : Int) < 2 by omega)
    have m : t % 2 = 0 ∨ t % 2 = 1 := by omega
    rcases m with m | m
    · rw [m]; simp; omega
    · rw [m]; simp
  rw [ls_lcm]
  refine ⟨go (by omega) (Int.ofNat_dvd.mpr (Nat.dvd_lcm_left ..)), go (by omega) (Int.ofNat_dvd.mpr (Nat.dvd_lcm_right ..))⟩
theorem plain : ∀ ns : List Int, ns.length ≤ 63 → ∃ o, F_law [(.ro (ns.map D.int), 0)] = .ok (.bl true) o := law_of fun ns hl => by
  have c1 : F_place_at [(.tup [.int 2, .int 3], 0), (.int 4, 0)] = .ok (.tup [.int 0, .int 2]) none := q_place (by omega) (by omega) (by omega)
  have c3 : F_meets_itself [(.tup [.int 2, .int 3], 0)] = .ok (.int 1) none := by
    have z := q_meets (w := 2) (h := 3) (by omega) (by omega)
    rw [show ((2 : Int) / gd 2 3 - 1) * (3 / gd 2 3 - 1) / 2 = 1 by decide +kernel] at z
    exact z
  have c2 : F_touched [(.tup [.int 1, .int 2], 0)] = .ok (.tup [.tup [.int 1, .int 1]]) none := by
    have := q_touched (w := 1) (h := 2) (by omega) (by omega)
    rw [show pts 1 2 = [(1, 1)] by decide +kernel, List.map_cons, List.map_nil, List.mergeSort_singleton] at this
    exact this
  simp (disch := first | assumption | omega | (refine okR_int ?_ ?_ <;> omega) | exact OkE.str | (refine okE_of ?_ ?_ <;> (simp only [okE_tup, okE_lst, okEs_c, okEs_nil, okEs_ints, okE_int, okE_bl, okE_non, okE_str, okEs_app, Bool.and_self, Bool.and_true] <;> decide +kernel))) only [↓w_c, ↓w_var, ↓w_mv, ↓wa_nil, ↓wa_vw, ↓wa_ev, ↓wf_nil, ↓wf_l, ↓wf_r, ↓w_ap, ↓wi_nil, ↓wi_r, ↓w_apF, ↓wb_b, ↓w_tb, ↓w_tru, ↓tr1, ↓tr_bl, ↓tr_int, ↓tr_non, ↓tr_lst, ↓tr_tup, ↓w_not, ↓w_and, ↓w_or, ↓w_yes, ↓w_ife, ↓w_bl, ↓w_andV, ↓w_orV, ↓w_notV, ↓wn_i, ↓w_int, ↓w_chain, ↓hk_int, ↓hk_0, ↓hk_2, ↓hk_l, ↓hd_nil, ↓hd_l, ↓hd_r, ↓w_call, ↓w_callio, ↓is_l, ↓is_r, ↓is_s, ↓mk_nil, ↓mk_r, ↓mk_l, ↓ib_n, ↓ib_s, ↓ib_none, ↓wfl_n, ↓wfl_r, ↓w_run, ↓iv_n, ↓iv_z, ↓iv_s, ↓w_next, ↓w_break, ↓w_cont, ↓w_never, ↓wx_n, ↓wx_r, ↓wx_b, ↓wx_c, ↓w_seq, ↓w_set, ↓w_expr, ↓w_ret, ↓w_ifs, ↓wm_nil, ↓wm_c, ↓sm_nil, ↓sm_c, ↓w_par, ↓bt_n, ↓bt_t, ↓bt_l, ↓bts_n, ↓bts_c, ↓w_tgt, ↓w_it, ↓w_itV, ↓w_itF, ↓w_str, ↓w_itP, ↓w_for, ↓w_lc, ↓w_mut, ↓w_store, ↓st1, wp_ok, wp_no, wp_ex, br_t, br_f, br_not, gv_z, gv_s, sv_z, sv_s, nk_int, nk_bl, nk_str, nk_tup, nk_ro, nk_non, nk_lt, nk_lf, nk_f, kk_0, kk_1, wpo_some, wpo_none, wpo_map, wpo_bind, o_add, o_adds, o_addl, o_addt, o_sub, o_mul, o_mull, o_fd, o_md, o_pw, o_ng, o_lt, o_le, o_gt, o_ge, o_abs, o_int, o_intb, o_is_ti, o_is_tb, o_is_ts, o_is_tt, o_is_tl, o_tup, o_lst, o_lenl, o_lent, o_lenr, o_lens, o_ixl, o_ixt, o_ixr, ixL_o, ixL_m1, gRepr_ok, gEq_ok, gNe_ok, eqD_int, eqD_bl, eqD_non, eqD_tup, eqD_lst, eqD_str, eqDs_nil, eqDs_c, eqDs_cn, eqDs_nc, eqDs_ints, o_eqS, o_neS, o_eqI, o_neI, o_eqB, o_neB, o_allB, o_anyB, o_sumI, o_sumM, o_allM, o_anyM, o_max2, o_min2, o_maxI, o_minI, o_tuple, o_tuplet, o_list, o_listt, o_rng1, o_rng2, o_append, o_pop, o_set, wk_l, wk_t, wk_r, wk_s, mu_l, mu_d, d_mut_l, d_mut_i, d_mut_b, d_mut_s, d_mut_t, d_mut_n, ixN_o, List.set_cons_zero, List.set_cons_succ, List.getLast?_concat, o_sumAI, o_sumAM, o_sumAt, o_sumAt2, o_maxA2, o_minA2, o_maxAI, o_minAI, o_maxAt, o_minAt, o_inSS, o_ninSS, o_ixs, o_join, o_isb, o_isn, o_notb, o_notn, in_int, in_non, in_tup, in_lst, in_str, in_bl, o_inI, o_inIt, o_ninI, o_ninIt, o_inS, o_inSt, o_lrg1, o_lrg2, o_trg1, o_popAtI, o_sortI, o_sortIt, o_extend, o_revL, o_zipl, o_zipt, o_rev, o_enum, wfp_nil, wfp_r, wfp_l, fo_n, fo_c, fo_b, fo_r, un_nil, un_c, re_nil, re_c, ov_nil, ov_c, kOk_0, kOk_1, kOk_2, kOk_n, o_minB2, o_maxB2, o_minBI, o_maxBI, o_minBt, o_maxBt, o_sortBI, o_sortBIt, o_dict1i, o_dict1s, o_dicK, o_dicT, nk_dt, nk_df, d_mut_dic, o_is_td, in_dic, o_is_tn, o_enumAl, o_enumAt, o_mulT, o_dT0, o_putT, nk_dT, mut_dT, List.map_cons, List.map_nil, List.length_cons, List.length_nil, List.replicate_succ, List.replicate_zero, List.cons_append, List.nil_append, List.append_nil, List.length_map, List.length_range, List.drop_succ_cons, List.drop_zero, List.zip_cons_cons, List.zip_nil_right, List.zip_nil_left, List.getElem?_cons_zero, List.getElem?_cons_succ, Option.join_some, Option.join_none, Option.map_some, Option.map_none, decide_true, decide_false, decide_not, Bool.not_true, Bool.not_false, Bool.not_not, Bool.true_and, Bool.false_and, Bool.and_true, Bool.and_false, true_and, and_true, false_and, and_false, not_true_eq_false, not_false_eq_true, if_true, if_false, reduceCtorEq, Option.some.injEq, and_self, mb_l, mb_r, Nat.reduceAdd, Nat.reducePow, Nat.reduceSub, Nat.reduceMul, Nat.reduceLT, Nat.reduceGT, Nat.reduceLeDiff, Nat.reduceEqDiff, Nat.reduceBEq, Nat.reduceBNe, Int.reduceAdd, Int.reduceSub, Int.reduceMul, Int.reduceNeg, Int.reduceDiv, Int.reduceMod, Int.reduceLT, Int.reduceLE, Int.reduceGT, Int.reduceGE, Int.reduceEq, Int.reduceNe, Int.reduceToNat, Int.reducePow, Int.reduceAbs, Int.reduceBEq, Int.reduceBNe, reduceIte, Nat.zero_add, Nat.sub_zero, Nat.add_zero, Int.natCast_one, Int.cast_ofNat_Int, F_law, b_law]
  refine q_make.go rfl hl fun h o hh => ?_
  have nk := hh.nk
  simp (disch := first | assumption | omega | (refine okR_int ?_ ?_ <;> omega) | exact OkE.str | (refine okE_of ?_ ?_ <;> (simp only [okE_tup, okE_lst, okEs_c, okEs_nil, okEs_ints, okE_int, okE_bl, okE_non, okE_str, okEs_app, Bool.and_self, Bool.and_true] <;> decide +kernel))) only [↓w_c, ↓w_var, ↓w_mv, ↓wa_nil, ↓wa_vw, ↓wa_ev, ↓wf_nil, ↓wf_l, ↓wf_r, ↓w_ap, ↓wi_nil, ↓wi_r, ↓w_apF, ↓wb_b, ↓w_tb, ↓w_tru, ↓tr1, ↓tr_bl, ↓tr_int, ↓tr_non, ↓tr_lst, ↓tr_tup, ↓w_not, ↓w_and, ↓w_or, ↓w_yes, ↓w_ife, ↓w_bl, ↓w_andV, ↓w_orV, ↓w_notV, ↓wn_i, ↓w_int, ↓w_chain, ↓hk_int, ↓hk_0, ↓hk_2, ↓hk_l, ↓hd_nil, ↓hd_l, ↓hd_r, ↓w_call, ↓w_callio, ↓is_l, ↓is_r, ↓is_s, ↓mk_nil, ↓mk_r, ↓mk_l, ↓ib_n, ↓ib_s, ↓ib_none, ↓wfl_n, ↓wfl_r, ↓w_run, ↓iv_n, ↓iv_z, ↓iv_s, ↓w_next, ↓w_break, ↓w_cont, ↓w_never, ↓wx_n, ↓wx_r, ↓wx_b, ↓wx_c, ↓w_seq, ↓w_set, ↓w_expr, ↓w_ret, ↓w_ifs, ↓wm_nil, ↓wm_c, ↓sm_nil, ↓sm_c, ↓w_par, ↓bt_n, ↓bt_t, ↓bt_l, ↓bts_n, ↓bts_c, ↓w_tgt, ↓w_it, ↓w_itV, ↓w_itF, ↓w_str, ↓w_itP, ↓w_for, ↓w_lc, ↓w_mut, ↓w_store, ↓st1, wp_ok, wp_no, wp_ex, br_t, br_f, br_not, gv_z, gv_s, sv_z, sv_s, nk_int, nk_bl, nk_str, nk_tup, nk_ro, nk_non, nk_lt, nk_lf, nk_f, kk_0, kk_1, wpo_some, wpo_none, wpo_map, wpo_bind, o_add, o_adds, o_addl, o_addt, o_sub, o_mul, o_mull, o_fd, o_md, o_pw, o_ng, o_lt, o_le, o_gt, o_ge, o_abs, o_int, o_intb, o_is_ti, o_is_tb, o_is_ts, o_is_tt, o_is_tl, o_tup, o_lst, o_lenl, o_lent, o_lenr, o_lens, o_ixl, o_ixt, o_ixr, ixL_o, ixL_m1, gRepr_ok, gEq_ok, gNe_ok, eqD_int, eqD_bl, eqD_non, eqD_tup, eqD_lst, eqD_str, eqDs_nil, eqDs_c, eqDs_cn, eqDs_nc, eqDs_ints, o_eqS, o_neS, o_eqI, o_neI, o_eqB, o_neB, o_allB, o_anyB, o_sumI, o_sumM, o_allM, o_anyM, o_max2, o_min2, o_maxI, o_minI, o_tuple, o_tuplet, o_list, o_listt, o_rng1, o_rng2, o_append, o_pop, o_set, wk_l, wk_t, wk_r, wk_s, mu_l, mu_d, d_mut_l, d_mut_i, d_mut_b, d_mut_s, d_mut_t, d_mut_n, ixN_o, List.set_cons_zero, List.set_cons_succ, List.getLast?_concat, o_sumAI, o_sumAM, o_sumAt, o_sumAt2, o_maxA2, o_minA2, o_maxAI, o_minAI, o_maxAt, o_minAt, o_inSS, o_ninSS, o_ixs, o_join, o_isb, o_isn, o_notb, o_notn, in_int, in_non, in_tup, in_lst, in_str, in_bl, o_inI, o_inIt, o_ninI, o_ninIt, o_inS, o_inSt, o_lrg1, o_lrg2, o_trg1, o_popAtI, o_sortI, o_sortIt, o_extend, o_revL, o_zipl, o_zipt, o_rev, o_enum, wfp_nil, wfp_r, wfp_l, fo_n, fo_c, fo_b, fo_r, un_nil, un_c, re_nil, re_c, ov_nil, ov_c, kOk_0, kOk_1, kOk_2, kOk_n, o_minB2, o_maxB2, o_minBI, o_maxBI, o_minBt, o_maxBt, o_sortBI, o_sortBIt, o_dict1i, o_dict1s, o_dicK, o_dicT, nk_dt, nk_df, d_mut_dic, o_is_td, in_dic, o_is_tn, o_enumAl, o_enumAt, o_mulT, o_dT0, o_putT, nk_dT, mut_dT, List.map_cons, List.map_nil, List.length_cons, List.length_nil, List.replicate_succ, List.replicate_zero, List.cons_append, List.nil_append, List.append_nil, List.length_map, List.length_range, List.drop_succ_cons, List.drop_zero, List.zip_cons_cons, List.zip_nil_right, List.zip_nil_left, List.getElem?_cons_zero, List.getElem?_cons_succ, Option.join_some, Option.join_none, Option.map_some, Option.map_none, decide_true, decide_false, decide_not, Bool.not_true, Bool.not_false, Bool.not_not, Bool.true_and, Bool.false_and, Bool.and_true, Bool.and_false, true_and, and_true, false_and, and_false, not_true_eq_false, not_false_eq_true, if_true, if_false, reduceCtorEq, Option.some.injEq, and_self, mb_l, mb_r, Nat.reduceAdd, Nat.reducePow, Nat.reduceSub, Nat.reduceMul, Nat.reduceLT, Nat.reduceGT, Nat.reduceLeDiff, Nat.reduceEqDiff, Nat.reduceBEq, Nat.reduceBNe, Int.reduceAdd, Int.reduceSub, Int.reduceMul, Int.reduceNeg, Int.reduceDiv, Int.reduceMod, Int.reduceLT, Int.reduceLE, Int.reduceGT, Int.reduceGE, Int.reduceEq, Int.reduceNe, Int.reduceToNat, Int.reducePow, Int.reduceAbs, Int.reduceBEq, Int.reduceBNe, reduceIte, Nat.zero_add, Nat.sub_zero, Nat.add_zero, Int.natCast_one, Int.cast_ofNat_Int, nk]
  refine wp_forR (fun i st => ∃ h x2 x3 x4 x5 x6 x7 x8 x9 x10 x11 x12 x13 x14 x15, st = [some (.ro (ns.map D.int), 0), some (h, 1), x2, x3, x4, x5, x6, x7, x8, x9, x10, x11, x12, x13, x14, x15] ∧ HandOk h) ⟨h, _, _, _, _, _, _, _, _, _, _, _, _, _, _, rfl, hh⟩ ?_ ?_
  · rintro i st hi ⟨h, x2, x3, x4, x5, x6, x7, x8, x9, x10, x11, x12, x13, x14, x15, rfl, hh⟩
    simp (disch := first | assumption | omega | (refine okR_int ?_ ?_ <;> omega) | exact OkE.str | (refine okE_of ?_ ?_ <;> (simp only [okE_tup, okE_lst, okEs_c, okEs_nil, okEs_ints, okE_int, okE_bl, okE_non, okE_str, okEs_app, Bool.and_self, Bool.and_true] <;> decide +kernel))) only [↓w_c, ↓w_var, ↓w_mv, ↓wa_nil, ↓wa_vw, ↓wa_ev, ↓wf_nil, ↓wf_l, ↓wf_r, ↓w_ap, ↓wi_nil, ↓wi_r, ↓w_apF, ↓wb_b, ↓w_tb, ↓w_tru, ↓tr1, ↓tr_bl, ↓tr_int, ↓tr_non, ↓tr_lst, ↓tr_tup, ↓w_not, ↓w_and, ↓w_or, ↓w_yes, ↓w_ife, ↓w_bl, ↓w_andV, ↓w_orV, ↓w_notV, ↓wn_i, ↓w_int, ↓w_chain, ↓hk_int, ↓hk_0, ↓hk_2, ↓hk_l, ↓hd_nil, ↓hd_l, ↓hd_r, ↓w_call, ↓w_callio, ↓is_l, ↓is_r, ↓is_s, ↓mk_nil, ↓mk_r, ↓mk_l, ↓ib_n, ↓ib_s, ↓ib_none, ↓wfl_n, ↓wfl_r, ↓w_run, ↓iv_n, ↓iv_z, ↓iv_s, ↓w_next, ↓w_break, ↓w_cont, ↓w_never, ↓wx_n, ↓wx_r, ↓wx_b, ↓wx_c, ↓w_seq, ↓w_set, ↓w_expr, ↓w_ret, ↓w_ifs, ↓wm_nil, ↓wm_c, ↓sm_nil, ↓sm_c, ↓w_par, ↓bt_n, ↓bt_t, ↓bt_l, ↓bts_n, ↓bts_c, ↓w_tgt, ↓w_it, ↓w_itV, ↓w_itF, ↓w_str, ↓w_itP, ↓w_for, ↓w_lc, ↓w_mut, ↓w_store, ↓st1, wp_ok, wp_no, wp_ex, br_t, br_f, br_not, gv_z, gv_s, sv_z, sv_s, nk_int, nk_bl, nk_str, nk_tup, nk_ro, nk_non, nk_lt, nk_lf, nk_f, kk_0, kk_1, wpo_some, wpo_none, wpo_map, wpo_bind, o_add, o_adds, o_addl, o_addt, o_sub, o_mul, o_mull, o_fd, o_md, o_pw, o_ng, o_lt, o_le, o_gt, o_ge, o_abs, o_int, o_intb, o_is_ti, o_is_tb, o_is_ts, o_is_tt, o_is_tl, o_tup, o_lst, o_lenl, o_lent, o_lenr, o_lens, o_ixl, o_ixt, o_ixr, ixL_o, ixL_m1, gRepr_ok, gEq_ok, gNe_ok, eqD_int, eqD_bl, eqD_non, eqD_tup, eqD_lst, eqD_str, eqDs_nil, eqDs_c, eqDs_cn, eqDs_nc, eqDs_ints, o_eqS, o_neS, o_eqI, o_neI, o_eqB, o_neB, o_allB, o_anyB, o_sumI, o_sumM, o_allM, o_anyM, o_max2, o_min2, o_maxI, o_minI, o_tuple, o_tuplet, o_list, o_listt, o_rng1, o_rng2, o_append, o_pop, o_set, wk_l, wk_t, wk_r, wk_s, mu_l, mu_d, d_mut_l, d_mut_i, d_mut_b, d_mut_s, d_mut_t, d_mut_n, ixN_o, List.set_cons_zero, List.set_cons_succ, List.getLast?_concat, o_sumAI, o_sumAM, o_sumAt, o_sumAt2, o_maxA2, o_minA2, o_maxAI, o_minAI, o_maxAt, o_minAt, o_inSS, o_ninSS, o_ixs, o_join, o_isb, o_isn, o_notb, o_notn, in_int, in_non, in_tup, in_lst, in_str, in_bl, o_inI, o_inIt, o_ninI, o_ninIt, o_inS, o_inSt, o_lrg1, o_lrg2, o_trg1, o_popAtI, o_sortI, o_sortIt, o_extend, o_revL, o_zipl, o_zipt, o_rev, o_enum, wfp_nil, wfp_r, wfp_l, fo_n, fo_c, fo_b, fo_r, un_nil, un_c, re_nil, re_c, ov_nil, ov_c, kOk_0, kOk_1, kOk_2, kOk_n, o_minB2, o_maxB2, o_minBI, o_maxBI, o_minBt, o_maxBt, o_sortBI, o_sortBIt, o_dict1i, o_dict1s, o_dicK, o_dicT, nk_dt, nk_df, d_mut_dic, o_is_td, in_dic, o_is_tn, o_enumAl, o_enumAt, o_mulT, o_dT0, o_putT, nk_dT, mut_dT, List.map_cons, List.map_nil, List.length_cons, List.length_nil, List.replicate_succ, List.replicate_zero, List.cons_append, List.nil_append, List.append_nil, List.length_map, List.length_range, List.drop_succ_cons, List.drop_zero, List.zip_cons_cons, List.zip_nil_right, List.zip_nil_left, List.getElem?_cons_zero, List.getElem?_cons_succ, Option.join_some, Option.join_none, Option.map_some, Option.map_none, decide_true, decide_false, decide_not, Bool.not_true, Bool.not_false, Bool.not_not, Bool.true_and, Bool.false_and, Bool.and_true, Bool.and_false, true_and, and_true, false_and, and_false, not_true_eq_false, not_false_eq_true, if_true, if_false, reduceCtorEq, Option.some.injEq, and_self, mb_l, mb_r, Nat.reduceAdd, Nat.reducePow, Nat.reduceSub, Nat.reduceMul, Nat.reduceLT, Nat.reduceGT, Nat.reduceLeDiff, Nat.reduceEqDiff, Nat.reduceBEq, Nat.reduceBNe, Int.reduceAdd, Int.reduceSub, Int.reduceMul, Int.reduceNeg, Int.reduceDiv, Int.reduceMod, Int.reduceLT, Int.reduceLE, Int.reduceGT, Int.reduceGE, Int.reduceEq, Int.reduceNe, Int.reduceToNat, Int.reducePow, Int.reduceAbs, Int.reduceBEq, Int.reduceBNe, reduceIte, Nat.zero_add, Nat.sub_zero, Nat.add_zero, Int.natCast_one, Int.cast_ofNat_Int]
    refine q_draw.go hh (by omega) (by omega) fun r h2 hr hh2 => ?_
    simp (disch := first | assumption | omega | (refine okR_int ?_ ?_ <;> omega) | exact OkE.str | (refine okE_of ?_ ?_ <;> (simp only [okE_tup, okE_lst, okEs_c, okEs_nil, okEs_ints, okE_int, okE_bl, okE_non, okE_str, okEs_app, Bool.and_self, Bool.and_true] <;> decide +kernel))) only [↓w_c, ↓w_var, ↓w_mv, ↓wa_nil, ↓wa_vw, ↓wa_ev, ↓wf_nil, ↓wf_l, ↓wf_r, ↓w_ap, ↓wi_nil, ↓wi_r, ↓w_apF, ↓wb_b, ↓w_tb, ↓w_tru, ↓tr1, ↓tr_bl, ↓tr_int, ↓tr_non, ↓tr_lst, ↓tr_tup, ↓w_not, ↓w_and, ↓w_or, ↓w_yes, ↓w_ife, ↓w_bl, ↓w_andV, ↓w_orV, ↓w_notV, ↓wn_i, ↓w_int, ↓w_chain, ↓hk_int, ↓hk_0, ↓hk_2, ↓hk_l, ↓hd_nil, ↓hd_l, ↓hd_r, ↓w_call, ↓w_callio, ↓is_l, ↓is_r, ↓is_s, ↓mk_nil, ↓mk_r, ↓mk_l, ↓ib_n, ↓ib_s, ↓ib_none, ↓wfl_n, ↓wfl_r, ↓w_run, ↓iv_n, ↓iv_z, ↓iv_s, ↓w_next, ↓w_break, ↓w_cont, ↓w_never, ↓wx_n, ↓wx_r, ↓wx_b, ↓wx_c, ↓w_seq, ↓w_set, ↓w_expr, ↓w_ret, ↓w_ifs, ↓wm_nil, ↓wm_c, ↓sm_nil, ↓sm_c, ↓w_par, ↓bt_n, ↓bt_t, ↓bt_l, ↓bts_n, ↓bts_c, ↓w_tgt, ↓w_it, ↓w_itV, ↓w_itF, ↓w_str, ↓w_itP, ↓w_for, ↓w_lc, ↓w_mut, ↓w_store, ↓st1, wp_ok, wp_no, wp_ex, br_t, br_f, br_not, gv_z, gv_s, sv_z, sv_s, nk_int, nk_bl, nk_str, nk_tup, nk_ro, nk_non, nk_lt, nk_lf, nk_f, kk_0, kk_1, wpo_some, wpo_none, wpo_map, wpo_bind, o_add, o_adds, o_addl, o_addt, o_sub, o_mul, o_mull, o_fd, o_md, o_pw, o_ng, o_lt, o_le, o_gt, o_ge, o_abs, o_int, o_intb, o_is_ti, o_is_tb, o_is_ts, o_is_tt, o_is_tl, o_tup, o_lst, o_lenl, o_lent, o_lenr, o_lens, o_ixl, o_ixt, o_ixr, ixL_o, ixL_m1, gRepr_ok, gEq_ok, gNe_ok, eqD_int, eqD_bl, eqD_non, eqD_tup, eqD_lst, eqD_str, eqDs_nil, eqDs_c, eqDs_cn, eqDs_nc, eqDs_ints, o_eqS, o_neS, o_eqI, o_neI, o_eqB, o_neB, o_allB, o_anyB, o_sumI, o_sumM, o_allM, o_anyM, o_max2, o_min2, o_maxI, o_minI, o_tuple, o_tuplet, o_list, o_listt, o_rng1, o_rng2, o_append, o_pop, o_set, wk_l, wk_t, wk_r, wk_s, mu_l, mu_d, d_mut_l, d_mut_i, d_mut_b, d_mut_s, d_mut_t, d_mut_n, ixN_o, List.set_cons_zero, List.set_cons_succ, List.getLast?_concat, o_sumAI, o_sumAM, o_sumAt, o_sumAt2, o_maxA2, o_minA2, o_maxAI, o_minAI, o_maxAt, o_minAt, o_inSS, o_ninSS, o_ixs, o_join, o_isb, o_isn, o_notb, o_notn, in_int, in_non, in_tup, in_lst, in_str, in_bl, o_inI, o_inIt, o_ninI, o_ninIt, o_inS, o_inSt, o_lrg1, o_lrg2, o_trg1, o_popAtI, o_sortI, o_sortIt, o_extend, o_revL, o_zipl, o_zipt, o_rev, o_enum, wfp_nil, wfp_r, wfp_l, fo_n, fo_c, fo_b, fo_r, un_nil, un_c, re_nil, re_c, ov_nil, ov_c, kOk_0, kOk_1, kOk_2, kOk_n, o_minB2, o_maxB2, o_minBI, o_maxBI, o_minBt, o_maxBt, o_sortBI, o_sortBIt, o_dict1i, o_dict1s, o_dicK, o_dicT, nk_dt, nk_df, d_mut_dic, o_is_td, in_dic, o_is_tn, o_enumAl, o_enumAt, o_mulT, o_dT0, o_putT, nk_dT, mut_dT, List.map_cons, List.map_nil, List.length_cons, List.length_nil, List.replicate_succ, List.replicate_zero, List.cons_append, List.nil_append, List.append_nil, List.length_map, List.length_range, List.drop_succ_cons, List.drop_zero, List.zip_cons_cons, List.zip_nil_right, List.zip_nil_left, List.getElem?_cons_zero, List.getElem?_cons_succ, Option.join_some, Option.join_none, Option.map_some, Option.map_none, decide_true, decide_false, decide_not, Bool.not_true, Bool.not_false, Bool.not_not, Bool.true_and, Bool.false_and, Bool.and_true, Bool.and_false, true_and, and_true, false_and, and_false, not_true_eq_false, not_false_eq_true, if_true, if_false, reduceCtorEq, Option.some.injEq, and_self, mb_l, mb_r, Nat.reduceAdd, Nat.reducePow, Nat.reduceSub, Nat.reduceMul, Nat.reduceLT, Nat.reduceGT, Nat.reduceLeDiff, Nat.reduceEqDiff, Nat.reduceBEq, Nat.reduceBNe, Int.reduceAdd, Int.reduceSub, Int.reduceMul, Int.reduceNeg, Int.reduceDiv, Int.reduceMod, Int.reduceLT, Int.reduceLE, Int.reduceGT, Int.reduceGE, Int.reduceEq, Int.reduceNe, Int.reduceToNat, Int.reducePow, Int.reduceAbs, Int.reduceBEq, Int.reduceBNe, reduceIte, Nat.zero_add, Nat.sub_zero, Nat.add_zero, Int.natCast_one, Int.cast_ofNat_Int]
    refine q_draw.go hh2 (by omega) (by omega) fun r' h3 hr' hh3 => ?_
    obtain ⟨W, eW⟩ := Int.eq_ofNat_of_zero_le (show 0 ≤ 1 + r by omega)
    obtain ⟨H, eH⟩ := Int.eq_ofNat_of_zero_le (show 0 ≤ 1 + r' by omega)
    simp (disch := first | assumption | omega | (refine okR_int ?_ ?_ <;> omega) | exact OkE.str | (refine okE_of ?_ ?_ <;> (simp only [okE_tup, okE_lst, okEs_c, okEs_nil, okEs_ints, okE_int, okE_bl, okE_non, okE_str, okEs_app, Bool.and_self, Bool.and_true] <;> decide +kernel))) only [↓w_c, ↓w_var, ↓w_mv, ↓wa_nil, ↓wa_vw, ↓wa_ev, ↓wf_nil, ↓wf_l, ↓wf_r, ↓w_ap, ↓wi_nil, ↓wi_r, ↓w_apF, ↓wb_b, ↓w_tb, ↓w_tru, ↓tr1, ↓tr_bl, ↓tr_int, ↓tr_non, ↓tr_lst, ↓tr_tup, ↓w_not, ↓w_and, ↓w_or, ↓w_yes, ↓w_ife, ↓w_bl, ↓w_andV, ↓w_orV, ↓w_notV, ↓wn_i, ↓w_int, ↓w_chain, ↓hk_int, ↓hk_0, ↓hk_2, ↓hk_l, ↓hd_nil, ↓hd_l, ↓hd_r, ↓w_call, ↓w_callio, ↓is_l, ↓is_r, ↓is_s, ↓mk_nil, ↓mk_r, ↓mk_l, ↓ib_n, ↓ib_s, ↓ib_none, ↓wfl_n, ↓wfl_r, ↓w_run, ↓iv_n, ↓iv_z, ↓iv_s, ↓w_next, ↓w_break, ↓w_cont, ↓w_never, ↓wx_n, ↓wx_r, ↓wx_b, ↓wx_c, ↓w_seq, ↓w_set, ↓w_expr, ↓w_ret, ↓w_ifs, ↓wm_nil, ↓wm_c, ↓sm_nil, ↓sm_c, ↓w_par, ↓bt_n, ↓bt_t, ↓bt_l, ↓bts_n, ↓bts_c, ↓w_tgt, ↓w_it, ↓w_itV, ↓w_itF, ↓w_str, ↓w_itP, ↓w_for, ↓w_lc, ↓w_mut, ↓w_store, ↓st1, wp_ok, wp_no, wp_ex, br_t, br_f, br_not, gv_z, gv_s, sv_z, sv_s, nk_int, nk_bl, nk_str, nk_tup, nk_ro, nk_non, nk_lt, nk_lf, nk_f, kk_0, kk_1, wpo_some, wpo_none, wpo_map, wpo_bind, o_add, o_adds, o_addl, o_addt, o_sub, o_mul, o_mull, o_fd, o_md, o_pw, o_ng, o_lt, o_le, o_gt, o_ge, o_abs, o_int, o_intb, o_is_ti, o_is_tb, o_is_ts, o_is_tt, o_is_tl, o_tup, o_lst, o_lenl, o_lent, o_lenr, o_lens, o_ixl, o_ixt, o_ixr, ixL_o, ixL_m1, gRepr_ok, gEq_ok, gNe_ok, eqD_int, eqD_bl, eqD_non, eqD_tup, eqD_lst, eqD_str, eqDs_nil, eqDs_c, eqDs_cn, eqDs_nc, eqDs_ints, o_eqS, o_neS, o_eqI, o_neI, o_eqB, o_neB, o_allB, o_anyB, o_sumI, o_sumM, o_allM, o_anyM, o_max2, o_min2, o_maxI, o_minI, o_tuple, o_tuplet, o_list, o_listt, o_rng1, o_rng2, o_append, o_pop, o_set, wk_l, wk_t, wk_r, wk_s, mu_l, mu_d, d_mut_l, d_mut_i, d_mut_b, d_mut_s, d_mut_t, d_mut_n, ixN_o, List.set_cons_zero, List.set_cons_succ, List.getLast?_concat, o_sumAI, o_sumAM, o_sumAt, o_sumAt2, o_maxA2, o_minA2, o_maxAI, o_minAI, o_maxAt, o_minAt, o_inSS, o_ninSS, o_ixs, o_join, o_isb, o_isn, o_notb, o_notn, in_int, in_non, in_tup, in_lst, in_str, in_bl, o_inI, o_inIt, o_ninI, o_ninIt, o_inS, o_inSt, o_lrg1, o_lrg2, o_trg1, o_popAtI, o_sortI, o_sortIt, o_extend, o_revL, o_zipl, o_zipt, o_rev, o_enum, wfp_nil, wfp_r, wfp_l, fo_n, fo_c, fo_b, fo_r, un_nil, un_c, re_nil, re_c, ov_nil, ov_c, kOk_0, kOk_1, kOk_2, kOk_n, o_minB2, o_maxB2, o_minBI, o_maxBI, o_minBt, o_maxBt, o_sortBI, o_sortBIt, o_dict1i, o_dict1s, o_dicK, o_dicT, nk_dt, nk_df, d_mut_dic, o_is_td, in_dic, o_is_tn, o_enumAl, o_enumAt, o_mulT, o_dT0, o_putT, nk_dT, mut_dT, List.map_cons, List.map_nil, List.length_cons, List.length_nil, List.replicate_succ, List.replicate_zero, List.cons_append, List.nil_append, List.append_nil, List.length_map, List.length_range, List.drop_succ_cons, List.drop_zero, List.zip_cons_cons, List.zip_nil_right, List.zip_nil_left, List.getElem?_cons_zero, List.getElem?_cons_succ, Option.join_some, Option.join_none, Option.map_some, Option.map_none, decide_true, decide_false, decide_not, Bool.not_true, Bool.not_false, Bool.not_not, Bool.true_and, Bool.false_and, Bool.and_true, Bool.and_false, true_and, and_true, false_and, and_false, not_true_eq_false, not_false_eq_true, if_true, if_false, reduceCtorEq, Option.some.injEq, and_self, mb_l, mb_r, Nat.reduceAdd, Nat.reducePow, Nat.reduceSub, Nat.reduceMul, Nat.reduceLT, Nat.reduceGT, Nat.reduceLeDiff, Nat.reduceEqDiff, Nat.reduceBEq, Nat.reduceBNe, Int.reduceAdd, Int.reduceSub, Int.reduceMul, Int.reduceNeg, Int.reduceDiv, Int.reduceMod, Int.reduceLT, Int.reduceLE, Int.reduceGT, Int.reduceGE, Int.reduceEq, Int.reduceNe, Int.reduceToNat, Int.reducePow, Int.reduceAbs, Int.reduceBEq, Int.reduceBNe, reduceIte, Nat.zero_add, Nat.sub_zero, Nat.add_zero, Int.natCast_one, Int.cast_ofNat_Int]
    rw [eW, eH]
    have oW : On W := ⟨by omega, by omega⟩
    have oH : On H := ⟨by omega, by omega⟩
    have w1 := oW.ok
    have h1 := oH.ok
    have g := gd_bd w1 h1
    have lb := ls_bd w1 h1
    have mb : Mb (W : Int) H := by left; omega
    have els : (W : Int) * H / gd W H = ls W H := ls_eq _ _
    obtain ⟨f1, f2⟩ := fo_L oW oH
    have qc := q_corner w1 h1
    have li : ∀ p q, F__law_is 6 [(.tup [.str (word p q), .int (ls W H), .int (ls W H / W + ls W H / H - 2)], 0), (.tup [.str (word p q), .int (ls W H), .int (ls W H / W + ls W H / H - 2)], 0)] = .ok (.bl true) none := fun p q => li_tup (n := 5) (by simp) fun x hx => by
      simp only [List.mem_cons, List.not_mem_nil, or_false] at hx
      rcases hx with rfl | rfl | rfl
      · exact li_str (n := 4) (by cases p <;> cases q <;> decide +kernel)
      · exact li_int (n := 4)
      · exact li_int (n := 4)
    simp (disch := first | assumption | omega | (refine okR_int ?_ ?_ <;> omega) | exact OkE.str | (refine okE_of ?_ ?_ <;> (simp only [okE_tup, okE_lst, okEs_c, okEs_nil, okEs_ints, okE_int, okE_bl, okE_non, okE_str, okEs_app, Bool.and_self, Bool.and_true] <;> decide +kernel))) only [↓w_c, ↓w_var, ↓w_mv, ↓wa_nil, ↓wa_vw, ↓wa_ev, ↓wf_nil, ↓wf_l, ↓wf_r, ↓w_ap, ↓wi_nil, ↓wi_r, ↓w_apF, ↓wb_b, ↓w_tb, ↓w_tru, ↓tr1, ↓tr_bl, ↓tr_int, ↓tr_non, ↓tr_lst, ↓tr_tup, ↓w_not, ↓w_and, ↓w_or, ↓w_yes, ↓w_ife, ↓w_bl, ↓w_andV, ↓w_orV, ↓w_notV, ↓wn_i, ↓w_int, ↓w_chain, ↓hk_int, ↓hk_0, ↓hk_2, ↓hk_l, ↓hd_nil, ↓hd_l, ↓hd_r, ↓w_call, ↓w_callio, ↓is_l, ↓is_r, ↓is_s, ↓mk_nil, ↓mk_r, ↓mk_l, ↓ib_n, ↓ib_s, ↓ib_none, ↓wfl_n, ↓wfl_r, ↓w_run, ↓iv_n, ↓iv_z, ↓iv_s, ↓w_next, ↓w_break, ↓w_cont, ↓w_never, ↓wx_n, ↓wx_r, ↓wx_b, ↓wx_c, ↓w_seq, ↓w_set, ↓w_expr, ↓w_ret, ↓w_ifs, ↓wm_nil, ↓wm_c, ↓sm_nil, ↓sm_c, ↓w_par, ↓bt_n, ↓bt_t, ↓bt_l, ↓bts_n, ↓bts_c, ↓w_tgt, ↓w_it, ↓w_itV, ↓w_itF, ↓w_str, ↓w_itP, ↓w_for, ↓w_lc, ↓w_mut, ↓w_store, ↓st1, wp_ok, wp_no, wp_ex, br_t, br_f, br_not, gv_z, gv_s, sv_z, sv_s, nk_int, nk_bl, nk_str, nk_tup, nk_ro, nk_non, nk_lt, nk_lf, nk_f, kk_0, kk_1, wpo_some, wpo_none, wpo_map, wpo_bind, o_add, o_adds, o_addl, o_addt, o_sub, o_mul, o_mull, o_fd, o_md, o_pw, o_ng, o_lt, o_le, o_gt, o_ge, o_abs, o_int, o_intb, o_is_ti, o_is_tb, o_is_ts, o_is_tt, o_is_tl, o_tup, o_lst, o_lenl, o_lent, o_lenr, o_lens, o_ixl, o_ixt, o_ixr, ixL_o, ixL_m1, gRepr_ok, gEq_ok, gNe_ok, eqD_int, eqD_bl, eqD_non, eqD_tup, eqD_lst, eqD_str, eqDs_nil, eqDs_c, eqDs_cn, eqDs_nc, eqDs_ints, o_eqS, o_neS, o_eqI, o_neI, o_eqB, o_neB, o_allB, o_anyB, o_sumI, o_sumM, o_allM, o_anyM, o_max2, o_min2, o_maxI, o_minI, o_tuple, o_tuplet, o_list, o_listt, o_rng1, o_rng2, o_append, o_pop, o_set, wk_l, wk_t, wk_r, wk_s, mu_l, mu_d, d_mut_l, d_mut_i, d_mut_b, d_mut_s, d_mut_t, d_mut_n, ixN_o, List.set_cons_zero, List.set_cons_succ, List.getLast?_concat, o_sumAI, o_sumAM, o_sumAt, o_sumAt2, o_maxA2, o_minA2, o_maxAI, o_minAI, o_maxAt, o_minAt, o_inSS, o_ninSS, o_ixs, o_join, o_isb, o_isn, o_notb, o_notn, in_int, in_non, in_tup, in_lst, in_str, in_bl, o_inI, o_inIt, o_ninI, o_ninIt, o_inS, o_inSt, o_lrg1, o_lrg2, o_trg1, o_popAtI, o_sortI, o_sortIt, o_extend, o_revL, o_zipl, o_zipt, o_rev, o_enum, wfp_nil, wfp_r, wfp_l, fo_n, fo_c, fo_b, fo_r, un_nil, un_c, re_nil, re_c, ov_nil, ov_c, kOk_0, kOk_1, kOk_2, kOk_n, o_minB2, o_maxB2, o_minBI, o_maxBI, o_minBt, o_maxBt, o_sortBI, o_sortBIt, o_dict1i, o_dict1s, o_dicK, o_dicT, nk_dt, nk_df, d_mut_dic, o_is_td, in_dic, o_is_tn, o_enumAl, o_enumAt, o_mulT, o_dT0, o_putT, nk_dT, mut_dT, List.map_cons, List.map_nil, List.length_cons, List.length_nil, List.replicate_succ, List.replicate_zero, List.cons_append, List.nil_append, List.append_nil, List.length_map, List.length_range, List.drop_succ_cons, List.drop_zero, List.zip_cons_cons, List.zip_nil_right, List.zip_nil_left, List.getElem?_cons_zero, List.getElem?_cons_succ, Option.join_some, Option.join_none, Option.map_some, Option.map_none, decide_true, decide_false, decide_not, Bool.not_true, Bool.not_false, Bool.not_not, Bool.true_and, Bool.false_and, Bool.and_true, Bool.and_false, true_and, and_true, false_and, and_false, not_true_eq_false, not_false_eq_true, if_true, if_false, reduceCtorEq, Option.some.injEq, and_self, mb_l, mb_r, Nat.reduceAdd, Nat.reducePow, Nat.reduceSub, Nat.reduceMul, Nat.reduceLT, Nat.reduceGT, Nat.reduceLeDiff, Nat.reduceEqDiff, Nat.reduceBEq, Nat.reduceBNe, Int.reduceAdd, Int.reduceSub, Int.reduceMul, Int.reduceNeg, Int.reduceDiv, Int.reduceMod, Int.reduceLT, Int.reduceLE, Int.reduceGT, Int.reduceGE, Int.reduceEq, Int.reduceNe, Int.reduceToNat, Int.reducePow, Int.reduceAbs, Int.reduceBEq, Int.reduceBNe, reduceIte, Nat.zero_add, Nat.sub_zero, Nat.add_zero, Int.natCast_one, Int.cast_ofNat_Int, q_law_common, els]
    have nW : ¬ ((0 : Int) = W) := by omega
    have nH : ¬ ((0 : Int) = H) := by omega
    have la := li true true
    have lr := li true false
    have ll := li false true
    simp only [word, if_true, Bool.false_eq_true, if_false] at la lr ll
    refine ⟨by omega, ?_⟩
    by_cases p : ls (W : Int) H / W % 2 = 1 <;> by_cases q : ls (W : Int) H / H % 2 = 1
    all_goals
      simp only [p, q, if_true, if_false, decide_true, decide_false, word, Bool.false_eq_true] at f1 f2 qc
      simp (disch := first | assumption | omega | (refine okR_int ?_ ?_ <;> omega) | exact OkE.str | (refine okE_of ?_ ?_ <;> (simp only [okE_tup, okE_lst, okEs_c, okEs_nil, okEs_ints, okE_int, okE_bl, okE_non, okE_str, okEs_app, Bool.and_self, Bool.and_true] <;> decide +kernel))) only [↓w_c, ↓w_var, ↓w_mv, ↓wa_nil, ↓wa_vw, ↓wa_ev, ↓wf_nil, ↓wf_l, ↓wf_r, ↓w_ap, ↓wi_nil, ↓wi_r, ↓w_apF, ↓wb_b, ↓w_tb, ↓w_tru, ↓tr1, ↓tr_bl, ↓tr_int, ↓tr_non, ↓tr_lst, ↓tr_tup, ↓w_not, ↓w_and, ↓w_or, ↓w_yes, ↓w_ife, ↓w_bl, ↓w_andV, ↓w_orV, ↓w_notV, ↓wn_i, ↓w_int, ↓w_chain, ↓hk_int, ↓hk_0, ↓hk_2, ↓hk_l, ↓hd_nil, ↓hd_l, ↓hd_r, ↓w_call, ↓w_callio, ↓is_l, ↓is_r, ↓is_s, ↓mk_nil, ↓mk_r, ↓mk_l, ↓ib_n, ↓ib_s, ↓ib_none, ↓wfl_n, ↓wfl_r, ↓w_run, ↓iv_n, ↓iv_z, ↓iv_s, ↓w_next, ↓w_break, ↓w_cont, ↓w_never, ↓wx_n, ↓wx_r, ↓wx_b, ↓wx_c, ↓w_seq, ↓w_set, ↓w_expr, ↓w_ret, ↓w_ifs, ↓wm_nil, ↓wm_c, ↓sm_nil, ↓sm_c, ↓w_par, ↓bt_n, ↓bt_t, ↓bt_l, ↓bts_n, ↓bts_c, ↓w_tgt, ↓w_it, ↓w_itV, ↓w_itF, ↓w_str, ↓w_itP, ↓w_for, ↓w_lc, ↓w_mut, ↓w_store, ↓st1, wp_ok, wp_no, wp_ex, br_t, br_f, br_not, gv_z, gv_s, sv_z, sv_s, nk_int, nk_bl, nk_str, nk_tup, nk_ro, nk_non, nk_lt, nk_lf, nk_f, kk_0, kk_1, wpo_some, wpo_none, wpo_map, wpo_bind, o_add, o_adds, o_addl, o_addt, o_sub, o_mul, o_mull, o_fd, o_md, o_pw, o_ng, o_lt, o_le, o_gt, o_ge, o_abs, o_int, o_intb, o_is_ti, o_is_tb, o_is_ts, o_is_tt, o_is_tl, o_tup, o_lst, o_lenl, o_lent, o_lenr, o_lens, o_ixl, o_ixt, o_ixr, ixL_o, ixL_m1, gRepr_ok, gEq_ok, gNe_ok, eqD_int, eqD_bl, eqD_non, eqD_tup, eqD_lst, eqD_str, eqDs_nil, eqDs_c, eqDs_cn, eqDs_nc, eqDs_ints, o_eqS, o_neS, o_eqI, o_neI, o_eqB, o_neB, o_allB, o_anyB, o_sumI, o_sumM, o_allM, o_anyM, o_max2, o_min2, o_maxI, o_minI, o_tuple, o_tuplet, o_list, o_listt, o_rng1, o_rng2, o_append, o_pop, o_set, wk_l, wk_t, wk_r, wk_s, mu_l, mu_d, d_mut_l, d_mut_i, d_mut_b, d_mut_s, d_mut_t, d_mut_n, ixN_o, List.set_cons_zero, List.set_cons_succ, List.getLast?_concat, o_sumAI, o_sumAM, o_sumAt, o_sumAt2, o_maxA2, o_minA2, o_maxAI, o_minAI, o_maxAt, o_minAt, o_inSS, o_ninSS, o_ixs, o_join, o_isb, o_isn, o_notb, o_notn, in_int, in_non, in_tup, in_lst, in_str, in_bl, o_inI, o_inIt, o_ninI, o_ninIt, o_inS, o_inSt, o_lrg1, o_lrg2, o_trg1, o_popAtI, o_sortI, o_sortIt, o_extend, o_revL, o_zipl, o_zipt, o_rev, o_enum, wfp_nil, wfp_r, wfp_l, fo_n, fo_c, fo_b, fo_r, un_nil, un_c, re_nil, re_c, ov_nil, ov_c, kOk_0, kOk_1, kOk_2, kOk_n, o_minB2, o_maxB2, o_minBI, o_maxBI, o_minBt, o_maxBt, o_sortBI, o_sortBIt, o_dict1i, o_dict1s, o_dicK, o_dicT, nk_dt, nk_df, d_mut_dic, o_is_td, in_dic, o_is_tn, o_enumAl, o_enumAt, o_mulT, o_dT0, o_putT, nk_dT, mut_dT, List.map_cons, List.map_nil, List.length_cons, List.length_nil, List.replicate_succ, List.replicate_zero, List.cons_append, List.nil_append, List.append_nil, List.length_map, List.length_range, List.drop_succ_cons, List.drop_zero, List.zip_cons_cons, List.zip_nil_right, List.zip_nil_left, List.getElem?_cons_zero, List.getElem?_cons_succ, Option.join_some, Option.join_none, Option.map_some, Option.map_none, decide_true, decide_false, decide_not, Bool.not_true, Bool.not_false, Bool.not_not, Bool.true_and, Bool.false_and, Bool.and_true, Bool.and_false, true_and, and_true, false_and, and_false, not_true_eq_false, not_false_eq_true, if_true, if_false, reduceCtorEq, Option.some.injEq, and_self, mb_l, mb_r, Nat.reduceAdd, Nat.reducePow, Nat.reduceSub, Nat.reduceMul, Nat.reduceLT, Nat.reduceGT, Nat.reduceLeDiff, Nat.reduceEqDiff, Nat.reduceBEq, Nat.reduceBNe, Int.reduceAdd, Int.reduceSub, Int.reduceMul, Int.reduceNeg, Int.reduceDiv, Int.reduceMod, Int.reduceLT, Int.reduceLE, Int.reduceGT, Int.reduceGE, Int.reduceEq, Int.reduceNe, Int.reduceToNat, Int.reducePow, Int.reduceAbs, Int.reduceBEq, Int.reduceBNe, reduceIte, Nat.zero_add, Nat.sub_zero, Nat.add_zero, Int.natCast_one, Int.cast_ofNat_Int, q_law_at, els, f1, f2, nW, nH, qc, la, lr, ll]
      refine ⟨by omega, by omega, ?_⟩
      refine tail0 hh3 oW oH ?_
      intro h x2 x3 x4 x5 x6 x7 x8 x9 x10 x11 x12 x13 x14 x15 hh
      simp (disch := first | assumption | omega | (refine okR_int ?_ ?_ <;> omega) | exact OkE.str | (refine okE_of ?_ ?_ <;> (simp only [okE_tup, okE_lst, okEs_c, okEs_nil, okEs_ints, okE_int, okE_bl, okE_non, okE_str, okEs_app, Bool.and_self, Bool.and_true] <;> decide +kernel))) only [↓w_c, ↓w_var, ↓w_mv, ↓wa_nil, ↓wa_vw, ↓wa_ev, ↓wf_nil, ↓wf_l, ↓wf_r, ↓w_ap, ↓wi_nil, ↓wi_r, ↓w_apF, ↓wb_b, ↓w_tb, ↓w_tru, ↓tr1, ↓tr_bl, ↓tr_int, ↓tr_non, ↓tr_lst, ↓tr_tup, ↓w_not, ↓w_and, ↓w_or, ↓w_yes, ↓w_ife, ↓w_bl, ↓w_andV, ↓w_orV, ↓w_notV, ↓wn_i, ↓w_int, ↓w_chain, ↓hk_int, ↓hk_0, ↓hk_2, ↓hk_l, ↓hd_nil, ↓hd_l, ↓hd_r, ↓w_call, ↓w_callio, ↓is_l, ↓is_r, ↓is_s, ↓mk_nil, ↓mk_r, ↓mk_l, ↓ib_n, ↓ib_s, ↓ib_none, ↓wfl_n, ↓wfl_r, ↓w_run, ↓iv_n, ↓iv_z, ↓iv_s, ↓w_next, ↓w_break, ↓w_cont, ↓w_never, ↓wx_n, ↓wx_r, ↓wx_b, ↓wx_c, ↓w_seq, ↓w_set, ↓w_expr, ↓w_ret, ↓w_ifs, ↓wm_nil, ↓wm_c, ↓sm_nil, ↓sm_c, ↓w_par, ↓bt_n, ↓bt_t, ↓bt_l, ↓bts_n, ↓bts_c, ↓w_tgt, ↓w_it, ↓w_itV, ↓w_itF, ↓w_str, ↓w_itP, ↓w_for, ↓w_lc, ↓w_mut, ↓w_store, ↓st1, wp_ok, wp_no, wp_ex, br_t, br_f, br_not, gv_z, gv_s, sv_z, sv_s, nk_int, nk_bl, nk_str, nk_tup, nk_ro, nk_non, nk_lt, nk_lf, nk_f, kk_0, kk_1, wpo_some, wpo_none, wpo_map, wpo_bind, o_add, o_adds, o_addl, o_addt, o_sub, o_mul, o_mull, o_fd, o_md, o_pw, o_ng, o_lt, o_le, o_gt, o_ge, o_abs, o_int, o_intb, o_is_ti, o_is_tb, o_is_ts, o_is_tt, o_is_tl, o_tup, o_lst, o_lenl, o_lent, o_lenr, o_lens, o_ixl, o_ixt, o_ixr, ixL_o, ixL_m1, gRepr_ok, gEq_ok, gNe_ok, eqD_int, eqD_bl, eqD_non, eqD_tup, eqD_lst, eqD_str, eqDs_nil, eqDs_c, eqDs_cn, eqDs_nc, eqDs_ints, o_eqS, o_neS, o_eqI, o_neI, o_eqB, o_neB, o_allB, o_anyB, o_sumI, o_sumM, o_allM, o_anyM, o_max2, o_min2, o_maxI, o_minI, o_tuple, o_tuplet, o_list, o_listt, o_rng1, o_rng2, o_append, o_pop, o_set, wk_l, wk_t, wk_r, wk_s, mu_l, mu_d, d_mut_l, d_mut_i, d_mut_b, d_mut_s, d_mut_t, d_mut_n, ixN_o, List.set_cons_zero, List.set_cons_succ, List.getLast?_concat, o_sumAI, o_sumAM, o_sumAt, o_sumAt2, o_maxA2, o_minA2, o_maxAI, o_minAI, o_maxAt, o_minAt, o_inSS, o_ninSS, o_ixs, o_join, o_isb, o_isn, o_notb, o_notn, in_int, in_non, in_tup, in_lst, in_str, in_bl, o_inI, o_inIt, o_ninI, o_ninIt, o_inS, o_inSt, o_lrg1, o_lrg2, o_trg1, o_popAtI, o_sortI, o_sortIt, o_extend, o_revL, o_zipl, o_zipt, o_rev, o_enum, wfp_nil, wfp_r, wfp_l, fo_n, fo_c, fo_b, fo_r, un_nil, un_c, re_nil, re_c, ov_nil, ov_c, kOk_0, kOk_1, kOk_2, kOk_n, o_minB2, o_maxB2, o_minBI, o_maxBI, o_minBt, o_maxBt, o_sortBI, o_sortBIt, o_dict1i, o_dict1s, o_dicK, o_dicT, nk_dt, nk_df, d_mut_dic, o_is_td, in_dic, o_is_tn, o_enumAl, o_enumAt, o_mulT, o_dT0, o_putT, nk_dT, mut_dT, List.map_cons, List.map_nil, List.length_cons, List.length_nil, List.replicate_succ, List.replicate_zero, List.cons_append, List.nil_append, List.append_nil, List.length_map, List.length_range, List.drop_succ_cons, List.drop_zero, List.zip_cons_cons, List.zip_nil_right, List.zip_nil_left, List.getElem?_cons_zero, List.getElem?_cons_succ, Option.join_some, Option.join_none, Option.map_some, Option.map_none, decide_true, decide_false, decide_not, Bool.not_true, Bool.not_false, Bool.not_not, Bool.true_and, Bool.false_and, Bool.and_true, Bool.and_false, true_and, and_true, false_and, and_false, not_true_eq_false, not_false_eq_true, if_true, if_false, reduceCtorEq, Option.some.injEq, and_self, mb_l, mb_r, Nat.reduceAdd, Nat.reducePow, Nat.reduceSub, Nat.reduceMul, Nat.reduceLT, Nat.reduceGT, Nat.reduceLeDiff, Nat.reduceEqDiff, Nat.reduceBEq, Nat.reduceBNe, Int.reduceAdd, Int.reduceSub, Int.reduceMul, Int.reduceNeg, Int.reduceDiv, Int.reduceMod, Int.reduceLT, Int.reduceLE, Int.reduceGT, Int.reduceGE, Int.reduceEq, Int.reduceNe, Int.reduceToNat, Int.reducePow, Int.reduceAbs, Int.reduceBEq, Int.reduceBNe, reduceIte, Nat.zero_add, Nat.sub_zero, Nat.add_zero, Int.natCast_one, Int.cast_ofNat_Int]
      exact ⟨h, x2, x3, x4, x5, x6, x7, x8, x9, x10, x11, x12, x13, x14, x15, rfl, hh⟩
  · rintro st ⟨h, x2, x3, x4, x5, x6, x7, x8, x9, x10, x11, x12, x13, x14, x15, rfl, hh⟩
    simp (disch := first | assumption | omega | (refine okR_int ?_ ?_ <;> omega) | exact OkE.str | (refine okE_of ?_ ?_ <;> (simp only [okE_tup, okE_lst, okEs_c, okEs_nil, okEs_ints, okE_int, okE_bl, okE_non, okE_str, okEs_app, Bool.and_self, Bool.and_true] <;> decide +kernel))) only [↓w_c, ↓w_var, ↓w_mv, ↓wa_nil, ↓wa_vw, ↓wa_ev, ↓wf_nil, ↓wf_l, ↓wf_r, ↓w_ap, ↓wi_nil, ↓wi_r, ↓w_apF, ↓wb_b, ↓w_tb, ↓w_tru, ↓tr1, ↓tr_bl, ↓tr_int, ↓tr_non, ↓tr_lst, ↓tr_tup, ↓w_not, ↓w_and, ↓w_or, ↓w_yes, ↓w_ife, ↓w_bl, ↓w_andV, ↓w_orV, ↓w_notV, ↓wn_i, ↓w_int, ↓w_chain, ↓hk_int, ↓hk_0, ↓hk_2, ↓hk_l, ↓hd_nil, ↓hd_l, ↓hd_r, ↓w_call, ↓w_callio, ↓is_l, ↓is_r, ↓is_s, ↓mk_nil, ↓mk_r, ↓mk_l, ↓ib_n, ↓ib_s, ↓ib_none, ↓wfl_n, ↓wfl_r, ↓w_run, ↓iv_n, ↓iv_z, ↓iv_s, ↓w_next, ↓w_break, ↓w_cont, ↓w_never, ↓wx_n, ↓wx_r, ↓wx_b, ↓wx_c, ↓w_seq, ↓w_set, ↓w_expr, ↓w_ret, ↓w_ifs, ↓wm_nil, ↓wm_c, ↓sm_nil, ↓sm_c, ↓w_par, ↓bt_n, ↓bt_t, ↓bt_l, ↓bts_n, ↓bts_c, ↓w_tgt, ↓w_it, ↓w_itV, ↓w_itF, ↓w_str, ↓w_itP, ↓w_for, ↓w_lc, ↓w_mut, ↓w_store, ↓st1, wp_ok, wp_no, wp_ex, br_t, br_f, br_not, gv_z, gv_s, sv_z, sv_s, nk_int, nk_bl, nk_str, nk_tup, nk_ro, nk_non, nk_lt, nk_lf, nk_f, kk_0, kk_1, wpo_some, wpo_none, wpo_map, wpo_bind, o_add, o_adds, o_addl, o_addt, o_sub, o_mul, o_mull, o_fd, o_md, o_pw, o_ng, o_lt, o_le, o_gt, o_ge, o_abs, o_int, o_intb, o_is_ti, o_is_tb, o_is_ts, o_is_tt, o_is_tl, o_tup, o_lst, o_lenl, o_lent, o_lenr, o_lens, o_ixl, o_ixt, o_ixr, ixL_o, ixL_m1, gRepr_ok, gEq_ok, gNe_ok, eqD_int, eqD_bl, eqD_non, eqD_tup, eqD_lst, eqD_str, eqDs_nil, eqDs_c, eqDs_cn, eqDs_nc, eqDs_ints, o_eqS, o_neS, o_eqI, o_neI, o_eqB, o_neB, o_allB, o_anyB, o_sumI, o_sumM, o_allM, o_anyM, o_max2, o_min2, o_maxI, o_minI, o_tuple, o_tuplet, o_list, o_listt, o_rng1, o_rng2, o_append, o_pop, o_set, wk_l, wk_t, wk_r, wk_s, mu_l, mu_d, d_mut_l, d_mut_i, d_mut_b, d_mut_s, d_mut_t, d_mut_n, ixN_o, List.set_cons_zero, List.set_cons_succ, List.getLast?_concat, o_sumAI, o_sumAM, o_sumAt, o_sumAt2, o_maxA2, o_minA2, o_maxAI, o_minAI, o_maxAt, o_minAt, o_inSS, o_ninSS, o_ixs, o_join, o_isb, o_isn, o_notb, o_notn, in_int, in_non, in_tup, in_lst, in_str, in_bl, o_inI, o_inIt, o_ninI, o_ninIt, o_inS, o_inSt, o_lrg1, o_lrg2, o_trg1, o_popAtI, o_sortI, o_sortIt, o_extend, o_revL, o_zipl, o_zipt, o_rev, o_enum, wfp_nil, wfp_r, wfp_l, fo_n, fo_c, fo_b, fo_r, un_nil, un_c, re_nil, re_c, ov_nil, ov_c, kOk_0, kOk_1, kOk_2, kOk_n, o_minB2, o_maxB2, o_minBI, o_maxBI, o_minBt, o_maxBt, o_sortBI, o_sortBIt, o_dict1i, o_dict1s, o_dicK, o_dicT, nk_dt, nk_df, d_mut_dic, o_is_td, in_dic, o_is_tn, o_enumAl, o_enumAt, o_mulT, o_dT0, o_putT, nk_dT, mut_dT, List.map_cons, List.map_nil, List.length_cons, List.length_nil, List.replicate_succ, List.replicate_zero, List.cons_append, List.nil_append, List.append_nil, List.length_map, List.length_range, List.drop_succ_cons, List.drop_zero, List.zip_cons_cons, List.zip_nil_right, List.zip_nil_left, List.getElem?_cons_zero, List.getElem?_cons_succ, Option.join_some, Option.join_none, Option.map_some, Option.map_none, decide_true, decide_false, decide_not, Bool.not_true, Bool.not_false, Bool.not_not, Bool.true_and, Bool.false_and, Bool.and_true, Bool.and_false, true_and, and_true, false_and, and_false, not_true_eq_false, not_false_eq_true, if_true, if_false, reduceCtorEq, Option.some.injEq, and_self, mb_l, mb_r, Nat.reduceAdd, Nat.reducePow, Nat.reduceSub, Nat.reduceMul, Nat.reduceLT, Nat.reduceGT, Nat.reduceLeDiff, Nat.reduceEqDiff, Nat.reduceBEq, Nat.reduceBNe, Int.reduceAdd, Int.reduceSub, Int.reduceMul, Int.reduceNeg, Int.reduceDiv, Int.reduceMod, Int.reduceLT, Int.reduceLE, Int.reduceGT, Int.reduceGE, Int.reduceEq, Int.reduceNe, Int.reduceToNat, Int.reducePow, Int.reduceAbs, Int.reduceBEq, Int.reduceBNe, reduceIte, Nat.zero_add, Nat.sub_zero, Nat.add_zero, Int.natCast_one, Int.cast_ofNat_Int, c1, c2, c3]
end K95
open PySem PySem.W PySem.Calls PyProof.Rows
set_option maxHeartbeats 0 in
theorem PySem.Challenge.cw_fewtoys_k95_whole_balls_that_come_to_cor_holds : PySem.Challenge.rw_fewtoys_k95_whole_balls_that_come_to_cor.Holds := by
  w_on; o_law
  refine HandSHeadRun.head_any (r := K95.R) (q := view K95.R.prog [30]) (H := K95.hk) (ob := K95.ob) (M := 4000) (loose := K95.loose) (d := HandSHeadRun.topDef K95.R.prog 30) (kwd := []) K95.ob_eq
    (by kernel_rfl) (fun s => by kernel_rfl) K95.run (by kernel_rfl) (by kernel_rfl) (by kernel_rfl) (by rfl) (by first | assumption | decide +kernel) (by decide +kernel) ⟨rfl, rfl, rfl, rfl, rfl, by decide +kernel⟩ ?hw ?hc
  case hw => w_witness2
  case hc =>
    refine PV.walk_ofG (l := PySem.Challenge.rw_fewtoys_k95_whole_balls_that_come_to_cor) (n := 63) (k := 8) (x := "script") rfl (by decide) (by kernel_rfl) ⟨rfl, by decide, by decide⟩ ?F
    intro w mg fa h Y G hmg0
    obtain ⟨K, KX, c⟩ := Y
    have hmg : mg ("law" : PySem.Str) = some (.ref fa) := by
      have e : (HandSHeadRun.topDef K95.R.prog 30).name = ("law" : PySem.Str) := by kernel_rfl
      rw [← e]
      exact hmg0
    obtain ⟨fd, hb, hF⟩ := K95.all (P := (PySem.Challenge.rw_fewtoys_k95_whole_balls_that_come_to_cor).prog) (w := w) KX G hmg c
    exact ⟨K, fd, _, KX, hb, fun H a ns hl ho hS => PV.law_sp K95.plain H a ns hl ho hS, hF⟩
